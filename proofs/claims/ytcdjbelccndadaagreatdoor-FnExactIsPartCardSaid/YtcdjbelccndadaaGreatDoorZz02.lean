/- Part of the proof: a machine over plain data, its proof, the functions of the program run on symbols, what they answer. Condition: none. -/
import Derived.Attr
import Derived.Test.YtcdjbelccndadaaGreatDoorZz01
set_option linter.unusedVariables false
set_option linter.unusedSimpArgs false
namespace Go.Proofs.YtcdjbelccndadaaGreatDoor
section
open Go.RowKit
theorem look_dropRows:∀(rs:List Nat) (s:St) (q:Nat),look (dropRows s rs).rw q=if q∈rs then none else look s.rw q
 |[],s,q=>by simp[dropRows]
 |r::rs,s,q=>by
  simp only[dropRows,look_dropRows rs,St.dropRow,look_drp,List.mem_cons];by_cases h:q∈rs
  ·simp[h]
  ·by_cases h2:r=q
   ·simp[h2]
   ·simp[h,h2,Ne.symm h2]
theorem dropRows_sl:∀(rs:List Nat) (s:St),(dropRows s rs).sl=s.sl∧(dropRows s rs).bx=s.bx
 |[],s=>⟨rfl,rfl⟩
 |r::rs,s=>by simp only[dropRows];exact dropRows_sl rs (s.dropRow r)
theorem look_dropBoxes:∀(rs:List Nat) (s:St) (q:Nat),look (dropBoxes s rs).bx q=if q∈rs then none else look s.bx q
 |[],s,q=>by simp[dropBoxes]
 |r::rs,s,q=>by
  simp only[dropBoxes,look_dropBoxes rs,look_drp,List.mem_cons];by_cases h:q∈rs
  ·simp[h]
  ·by_cases h2:r=q
   ·simp[h2]
   ·simp[h,h2,Ne.symm h2]
theorem dropBoxes_sl:∀(rs:List Nat) (s:St),(dropBoxes s rs).sl=s.sl∧(dropBoxes s rs).rw=s.rw
 |[],s=>⟨rfl,rfl⟩
 |r::rs,s=>by simp only[dropBoxes];exact dropBoxes_sl rs _
theorem Adv.weaken{γ γ':Gh}{M M':Own→Prop}{w w':World}(h:Adv γ M w w')(hM:∀g,M (γ.ω g)→M' (γ'.ω g))(hh:∀g,γ'.h g≤γ.h g):Adv γ' M' w w':=
 ⟨h.os,h.tape,h.output,h.size,fun g hg hn=>h.block g hg (fun hm=>hn (hM g hm)),fun g j hj=>h.cell g j (Nat.lt_of_lt_of_le hj (hh g)),h.kthaw⟩
theorem callFunc_run{P:Program}{F:FuncId}{fn:Func}(hf:P.funcs[F]?=some fn)(hb:fn.body.isSome=true)(hn:(fn.name == "runtime.NumGoroutine")=false)(args:Array Value)(w:World):(callFunc F args).run P w=.ok (.enter F args) w:=by
 have hn':¬fn.name = "runtime.NumGoroutine":=by simpa using hn
 have hb':¬fn.body=none:=by cases h:fn.body<;>simp_all
 simp[callFunc,hf,hn',hb']
theorem boxes_live{s:St}:∀(cs:List C) {as:List A},toAs s cs=some as→∀b∈boxesOf cs,∃bcs,look s.bx b=some bcs
 |[],_,_,b,hb=>by simp[boxesOf]at hb
 |c::cs,as,h,b,hb=>by
  simp only[toAs]at h
  split at h
  ·rename_i a ha;simp only[Option.map_eq_some_iff]at h;obtain⟨as',h,_⟩:=h;by_cases hp:∃b',c=.ptr b' 0
   ·obtain⟨b',rfl⟩:=hp;simp only[boxesOf,List.mem_cons]at hb;rcases hb with rfl|hb
    ·simp only[toA]at ha
     split at ha
     ·rename_i bcs hbl;exact⟨bcs,hbl⟩
     ·cases ha
    ·exact boxes_live cs h b hb
   ·have hbo:boxesOf (c::cs)=boxesOf cs:=by
     unfold toA at ha
     split at ha
     ·rename_i b';exact absurd ⟨b',rfl⟩ hp
     ·simp only[Option.map_eq_some_iff]at ha;obtain⟨rs,hrs,_⟩:=ha;have hcell:=rd_cell hrs;cases c<;>simp_all[boxesOf,C.cells,C.cell]
    rw[hbo]at hb;exact boxes_live cs h b hb
  ·cases h
section
variable {P:Program} {γ:Gh} {h0:Nat→Nat} {io:List Nat} {w0:World} {s s':St} {f:Fm} {w:World} {N:Nat} {ty:TypeId} {pos:String} {aft:Array Edge} {gd:Option (Nat×Bool)} {K:Fm→World→Prop}
 {cf:Nat→List A→Option (List A×List A)} {mf:Nat→Bool→List D→Int→Option (List D×Int)}
theorem n_call(hi:Inv γ h0 io w0 s f w){F0:FuncId}{fn:Func}(hfn:P.funcs[F0]?=some fn)(hbd:fn.body.isSome=true)(hnm:(fn.name == "runtime.NumGoroutine")=false){as:Array Operand}{xs:List KX}{ts:Array TypeId}{gn:Nat}(hx:okXs N as.toList xs=true)
  (hcf:∀a r o,cf gn a=some (r,o)→CallAt w0 io P F0 a r o) {dst:Option Nat} (he:evN cf mf s dst (.call gn xs)=some s') (h:∀γ' f' w',Inv γ' h0 io w0 s' f' w'→Tr dst (touch s dst (.call gn xs)) γ w γ' w' f f'→K f' w') :
  Op1 P N ⟨dst,.call {callee:=.value (.func F0),args:=as,argTypes:=ts },ty,pos,aft,gd⟩ f w K:=by
 simp only[evN,evCall]at he
 split at he
 ·cases he
 ·rename_i cas hcas
  split at he
  ·rename_i hnd;simp only[Bool.and_eq_true]at hnd;obtain⟨⟨hnd1,hnd2⟩,hnd3⟩:=hnd;rw[nodupB_iff]at hnd1 hnd2
   split at he
   ·cases he
   ·rename_i rs outs hcfe
    split at he
    ·rename_i hshort;simp only[Option.some.injEq]at he;generalize hcs:xs.map (evX s)=cs at *;have hcr:CRs γ w cs (as.toList.map (fr f N).eval):=by rw[← hcs];exact okXs_rel hi _ _ hx
     generalize hvs:as.toList.map (fr f N).eval=vs at *;obtain⟨γs,iS,bS,slS,mS,gS,wS,e1,e2,e3⟩:=hi.shareR (lentAll cs);have hmv:∀r∈movedAll s cs,r∉lentAll cs:=by
      intro r hr hl;have:=List.all_eq_true.1 hnd3 r hr;simp[hl]at this
     obtain⟨F,rA,dA,lA,pA⟩:=args_rel iS bS slS mS e2 gS e3 cs hcr hcas (fun r hr=>hr) hmv hnd1 hnd2;have ltF:∀g∈F,g < w.heap.size:=fun g hg=>by
      rcases lA g hg with ⟨r,_,h1⟩|⟨b,_,h1,_⟩<;>exact (iS.own g (by rw[h1];simp)).1
     have ioF:∀g∈F,w0.heap.size≤g∨g∈io:=fun g hg=>by
      rcases lA g hg with ⟨r,_,h1⟩|⟨b,_,h1,_⟩<;>exact (iS.own g (by rw[h1];simp)).2
     have hcall:=hcf _ _ _ hcfe w γs.h vs F hi.size hi.frame ioF rA dA ltF iS.hnew;have hvs':as.map (fr f N).eval=vs.toArray:=by rw[← hvs];apply Array.ext';rw[Array.toList_map]
     have hr:=x_call (ρ:=(fr f N).eval) (dst:=dst) (ty:=ty) (pos:=pos) (aft:=aft) (gd:=gd) (w:=w) (ts:=ts) (callFunc_run hfn hbd hnm) rfl hvs';unfold Op1 Oper.wp;rw[hr,Oper.upon_enter];refine Calls.mono hcall fun e w' hp=>?_;obtain⟨v,us,F1,F2,h',rfl,hret,hrs,houts,hnd12,hF12,hch⟩:=hp;have key:∀(γX:Gh) (sX:St),Inv γX h0 io w0 sX f w→γX.β=γ.β→(∀g,γ.h g≤γX.h g)→(∀g,γX.h g≤γs.h g)→(∀g∈F,(∃r∈movedAll s cs,γX.ω g=.row r)∨∃b∈boxesOf cs,γX.ω g=.box b∧g=γX.β b)→(∀g,(∃r∈movedAll s cs,γX.ω g=.row r)→∃r∈movedAll s cs,γ.ω g=.row r)→(∀g,(∃b∈boxesOf cs,γX.ω g=.box b)→∃b∈boxesOf cs,γ.ω g=.box b)→sX.bx=s.bx→
       ((rs.all A.closed=true∧outs.all A.closed=true)∨∀g,g < w.heap.size→g∉F→γs.h g≤γX.h g)→
       ∃f',(fr f N).put dst v=fr f' N∧K f' w'∨(resCells (dst.getD 0) 0 rs (wback (dropBoxes (dropRows sX (movedAll s cs)) (boxesOf cs)) cs outs)).2.put dst (match (resCells (dst.getD 0) 0 rs (wback (dropBoxes (dropRows sX (movedAll s cs)) (boxesOf cs)) cs outs)).1 with|[c]=>c|l=>.tup l)≠s':=by
      intro γX sX iX bX mX mX2 lX ownR ownB ebx hcl;by_cases hse:(resCells (dst.getD 0) 0 rs (wback (dropBoxes (dropRows sX (movedAll s cs)) (boxesOf cs)) cs outs)).2.put dst (match (resCells (dst.getD 0) 0 rs (wback (dropBoxes (dropRows sX (movedAll s cs)) (boxesOf cs)) cs outs)).1 with|[c]=>c|l=>.tup l)=s'
      ·have i1:Inv γX h0 io w0 (dropBoxes (dropRows sX (movedAll s cs)) (boxesOf cs)) f w:=iX.sub
        (fun d c hl=>by rw[(dropBoxes_sl _ _).1,(dropRows_sl _ _).1]at hl;exact hl)
        (fun d c hl=>by
         rw[look_dropBoxes,(dropRows_sl _ _).2]at hl
         split at hl
         ·cases hl
         ·exact hl)
        (fun d c hl=>by
         rw[(dropBoxes_sl _ _).2,look_dropRows]at hl
         split at hl
         ·cases hl
         ·exact hl)
       obtain⟨hadv,γ1,i2,b2,sl2,m2,k2,n2,o2,x2,f2⟩:=i1.after (mv:=movedAll s cs) (bs:=boxesOf cs) hch mX2 (fun g hg=>by
         rcases lX g hg with h1|⟨b,hb,h1,_⟩
         ·exact .inl h1
         ·exact .inr ⟨b,hb,h1⟩) (fun r hr=>by rw[(dropBoxes_sl _ _).2,look_dropRows,if_pos hr]) (fun b hb=>by rw[look_dropBoxes,if_pos hb]) (fun g hg b hb=>by
         rcases lX g hg with ⟨r,_,h1⟩|⟨b',hb',h1,h2⟩
         ·rw[h1]at hb;cases hb
         ·have h3:=pA b' hb';rw[bS,← bX,← h2]at h3;exact (houts.ptr g h3).1)
       have heq:∀g∈F1++F2,γ1.h g=h' g:=fun g hg=>n2 g (hF12 g hg).1;have hle:(rs.all A.closed=true∧outs.all A.closed=true)∨∀g,h' g≤γ1.h g:=by
        rcases hcl with hcl|hcl
        ·exact .inl hcl
        ·refine .inr fun g=>?_;rcases Nat.lt_or_ge g w.heap.size with h1|h1
         ·by_cases h2:g∈F
          ·rw[n2 g (.inr h2)];exact Nat.le_refl _
          ·rw[k2 g h1 h2,hch.hold g h1 h2];exact hcl g h1 h2
         ·rw[n2 g (.inl h1)];exact Nat.le_refl _
       have houts1:ARs γ1.h w' outs (outVals cas vs) F2:=houts.re (fun g hg=>heq g (by simp[hg])) (hle.imp (fun h=>h.2) id);have hrs1:ARs γ1.h w' rs us F1:=hrs.re (fun g hg=>heq g (by simp[hg])) (hle.imp (fun h=>h.1) id);have goodF:∀g∈F1++F2,(γ1.ω g=.free∨γ1.ω g=.lim∨Value.pointer (some ⟨g,0,none⟩)∈outVals cas vs)∧g < w'.heap.size∧(w0.heap.size≤g∨g∈io):=by
        intro g hg;obtain⟨h1,h2⟩:=hF12 g hg;rcases h1 with h1|h1
        ·exact⟨.inl (f2 g h1),h2,.inl (Nat.le_trans hi.size h1)⟩
        ·rcases lX g h1 with h3|⟨b,hb,h3,h4⟩
         ·have ho:=o2 g h1 h3;exact⟨.inr (.inl ho),h2,(i2.own g (by rw[ho];simp)).2⟩
         ·have ho:=x2 g b h3;refine⟨.inr (.inr ?_),h2,(i2.own g (by rw[ho];simp)).2⟩;have h5:=pA b hb;rw[bS,← bX,← h4]at h5;exact h5
       rw[List.nodup_append]at hnd12;obtain⟨hn1,hn2,hdis⟩:=hnd12;obtain⟨γ2,i3,b3,h3,o3⟩:=wback_rel cs (s':=s) i2 (by rw[b2,bX];exact hcr.ptrs) hcas houts1 hn2 (fun g hg=>goodF g (by simp[hg])) (fun b hb=>by
         obtain⟨bcs,hbl⟩:=boxes_live cs hcas b hb;obtain⟨T,us',_,_,k3⟩:=iX.bx b bcs (by rw[ebx];exact hbl);rw[b2];exact x2 _ b k3)
       obtain⟨γ3,i4,c4,b4,h4,_⟩:=resCells_rel (d:=dst.getD 0) rs 0 i3 (by rw[h3];exact hrs1) hn1 (fun g hg=>by
         obtain⟨k1,k2',k3⟩:=goodF g (by simp[hg]);have hne:g∉F2:=fun h=>hdis g hg g h rfl;refine⟨?_,k2',k3⟩;rw[o3 g hne];rcases k1 with k1|k1|k1
         ·exact .inl k1
         ·exact .inr k1
         ·exact absurd (houts1.ptr g k1).2 hne) (fun a ha=>by
         have hs:=List.all_eq_true.1 hshort a ha;cases a with
         |val ag vs=>exact⟨ag,vs,rfl,by simpa [A.short] using hs⟩
         |box vs=>simp[A.short]at hs)
       have hcv:CR γ3 w' (match (resCells (dst.getD 0) 0 rs (wback (dropBoxes (dropRows sX (movedAll s cs)) (boxesOf cs)) cs outs)).1 with|[c]=>c|l=>.tup l) v:=by
        generalize (resCells (dst.getD 0) 0 rs (wback (dropBoxes (dropRows sX (movedAll s cs)) (boxesOf cs)) cs outs)).1=l at c4;have hl:=c4.length;rcases hret with rfl|⟨hne,rfl⟩
        ·cases l with
         |nil=>simp at hl
         |cons c l=>
          cases l with
          |nil=>exact headD_rel c4
          |cons c' l=>simp at hl
        ·split
         ·rename_i c;simp at hl;exact absurd hl hne
         ·simp only[CR];exact⟨us,rfl,c4⟩
       have htr:∀f':Fm,FOk dst f f'→Tr dst (touch s dst (.call gn xs)) γ w γ3 w' f f':=fun f' hfo=>by
        refine⟨hadv.weaken (fun g hg=>?_) mX,fun b _=>by rw[b4,b3,b2,bX],fun g=>by rw[h4,h3];exact Nat.le_trans (mX g) (m2 g),hfo⟩;simp only[touch,hcs,callIds];rcases hg with ⟨r,hr,h5⟩|⟨b,hb,h5⟩
        ·obtain⟨r',hr',h6⟩:=ownR g ⟨r,hr,h5⟩;exact⟨r',by simp[hr'],.inr h6⟩
        ·obtain⟨b',hb',h6⟩:=ownB g ⟨b,hb,h5⟩;exact⟨b',by simp[hb'],.inl h6⟩
       cases dst with
       |none=>
        refine⟨f,.inl ⟨rfl,h γ3 f w' ?_ (htr _ .skip)⟩⟩;rw[← hse];exact i4
       |some d=>
        refine⟨upd f d v,.inl ⟨fr_put f N d v,h γ3 _ w' ?_ (htr _ .put)⟩⟩;rw[← hse];exact i4.put d _ v hcv
      ·exact⟨f,.inr hse⟩
     have lG:∀g∈F,(∃r∈movedAll s cs,γ.ω g=.row r)∨∃b∈boxesOf cs,γ.ω g=.box b∧g=γ.β b:=by
      intro g hg;rcases lA g hg with ⟨r,hr,h1⟩|⟨b,hb,h1,h2⟩
      ·rcases wS g with h3|h3|h3|⟨q,hq,h3⟩
       ·exact .inl ⟨r,hr,h3.symm.trans h1⟩
       ·rw[h1]at h3;cases h3
       ·rw[h1]at h3;cases h3
       ·rw[h1]at h3;cases h3;exact absurd hq (hmv r hr)
      ·rcases wS g with h3|h3|h3|⟨q,hq,h3⟩
       ·exact .inr ⟨b,hb,h3.symm.trans h1,by rw[← bS];exact h2⟩
       ·rw[h1]at h3;cases h3
       ·rw[h1]at h3;cases h3
       ·rw[h1]at h3;cases h3
     have fin:∃f',(fr f N).put dst v=fr f' N∧K f' w':=by
      by_cases hcl:(rs.all A.closed && outs.all A.closed)=true
      ·rw[if_pos hcl]at he;rw[Bool.and_eq_true]at hcl;obtain⟨f',h1|h1⟩:=key γ s hi rfl (fun _=>Nat.le_refl _) mS lG (fun _ h=>h) (fun _ h=>h) rfl (.inl hcl)
       ·exact⟨f',h1⟩
       ·exact absurd he h1
      ·rw[if_neg hcl]at he;obtain⟨f',h1|h1⟩:=key γs (shareAll s (lentAll cs)) iS bS mS (fun _=>Nat.le_refl _) lA (fun g ⟨r,hr,h1⟩=>by
         rcases wS g with h3|h3|h3|⟨q,hq,h3⟩
         ·exact⟨r,hr,h3.symm.trans h1⟩
         ·rw[h1]at h3;cases h3
         ·rw[h1]at h3;cases h3
         ·rw[h1]at h3;cases h3;exact absurd hq (hmv r hr)) (fun g ⟨b,hb,h1⟩=>by
         rcases wS g with h3|h3|h3|⟨q,hq,h3⟩
         ·exact⟨b,hb,h3.symm.trans h1⟩
         ·rw[h1]at h3;cases h3
         ·rw[h1]at h3;cases h3
         ·rw[h1]at h3;cases h3) e2 (.inr fun _ _ _=>Nat.le_refl _)
       ·exact⟨f',h1⟩
       ·exact absurd he h1
     exact fin
    ·cases he
  ·cases he
end
end
section
open Go.RowKit
section
variable {P:Program} {γ:Gh} {h0:Nat→Nat} {io:List Nat} {w0:World} {s s':St} {f:Fm} {w w':World} {N:Nat} {num:Nat→FuncId} {K':Fm→World→Prop}
 {cf:Nat→List A→Option (List A×List A)} {mf:Nat→Bool→List D→Int→Option (List D×Int)}
theorem cellM_rel (hi : Inv γ h0 io w0 s f w) {c : C} {v : Value} {x : D} (hc : CR γ w c v) (hx : cellM s c = some x) :
    ∃ G, Rp w x v G ∧ (G.map Prod.fst).Nodup ∧ (∀ be ∈ G, ∃ r ∈ rowsOf [c], γ.ω be.1 = .row r ∧ γ.h be.1 = 0 ∧ Thaw w be.1) ∧
      ∀ r row, c = .ref r → look s.rw r = some row → ∀ w' es', Rp w' (.list row.k row.fl es') v G → (∀ g, Thaw w g → Thaw w' g) → w.heap.size ≤ w'.heap.size → (x.plain = false) →
        ∃ F, RowR γ.h w' ⟨es', row.k, row.fl, true, false, false⟩ (γ.sl r) F ∧ F.Nodup ∧ ∀ g ∈ F, γ.ω g = .row r := by
  cases c with
  | d y =>
    simp only [CR] at hc
    obtain ⟨F, hF, hS⟩ := hc
    refine ⟨F, ?_⟩
    cases y with
    | list k fl es =>
      cases es with
      | nil =>
        simp only [cellM, Option.some.injEq] at hx
        subst hx
        have hF0 : F = [] := by
          simp only [Rp] at hF
          obtain ⟨A, n, cc, _, hn, _, _, _, _, _, h | ⟨hp, _⟩⟩ := hF
          · exact h.2
          · simp at hn; omega
        subst hF0
        exact ⟨hF, by simp, fun be hb => by simp at hb, fun r row e => by cases e⟩
      | cons e es => simp [cellM] at hx
    | int k n => simp only [cellM, Option.some.injEq] at hx; subst hx; have : F = [] := by (simp only [Rp] at hF; exact hF.2.1)
                 subst this; exact ⟨hF, by simp, fun be hb => by simp at hb, fun r row e => by cases e⟩
    | bool b => simp only [cellM, Option.some.injEq] at hx; subst hx; have : F = [] := by (simp only [Rp] at hF; exact hF.2)
                subst this; exact ⟨hF, by simp, fun be hb => by simp at hb, fun r row e => by cases e⟩
    | str b => simp only [cellM, Option.some.injEq] at hx; subst hx; have : F = [] := by (simp only [Rp] at hF; exact hF.2.1)
               subst this; exact ⟨hF, by simp, fun be hb => by simp at hb, fun r row e => by cases e⟩
  | nil k fl =>
    simp only [cellM, Option.some.injEq] at hx
    subst hx
    simp only [CR] at hc
    refine ⟨[], ?_, by simp, fun be hb => by simp at hb, fun r row e => by cases e⟩
    simp only [Rp]
    exact ⟨none, 0, 0, hc.1, rfl, Nat.le_refl _, by simp [maxLen], fun _ => flat_nil, hc.2, fun e he => by simp at he, .inl ⟨rfl, trivial⟩⟩
  | ref r =>
    simp only [CR] at hc
    obtain ⟨hv, _⟩ := hc
    simp only [cellM] at hx
    split at hx
    · rename_i row hl
      split at hx
      · rename_i hdz
        simp only [Option.some.injEq] at hx
        subst hx
        obtain ⟨F, hR, hnd, hω⟩ := hi.rw r row hl
        obtain ⟨A, n, c, q1, q2, q3, q4, q5, q6, q7, q8⟩ := hR
        rcases q8 with ⟨rfl, rfl, rfl⟩ | ⟨g, o, xs, G, rfl, a2, a3, a4, a5, a6, a7, a8, a9, a10⟩
        · have hn0 : n = 0 := by omega
          refine ⟨[], ?_, by simp, fun be hb => by simp at hb, fun r' row' e hl' w' es' hR' _ _ _ => ?_⟩
          · simp only [Rp]
            exact ⟨none, n, 0, hv.trans q1, q2, q3, q4, q7, q5, q6, .inl ⟨hn0, trivial⟩⟩
          · cases e
            rw [hl] at hl'
            cases hl'
            simp only [Rp] at hR'
            obtain ⟨A', n', c', e1, e2, e3, e4, e5, e6, e7, _⟩ := hR'
            rw [hv, q1] at e1
            cases e1
            exact ⟨[], ⟨none, n, 0, q1, e2, q3, q4, e6, e7, e5, .inl ⟨rfl, rfl, rfl⟩⟩, by simp, fun g hg => by simp at hg⟩
        · obtain ⟨eF, hz⟩ := a9 hdz.1
          have hgω : γ.ω g = .row r := hω g (by rw [eF]; simp)
          by_cases hn0 : n = 0
          · refine ⟨[], ?_, by simp, fun be hb => by simp at hb, fun r' row' e hl' w' es' hR' hth hsz _ => ?_⟩
            · simp only [Rp]
              exact ⟨_, n, c, hv.trans q1, q2, q3, q4, q7, q5, q6, .inl ⟨hn0, trivial⟩⟩
            · cases e
              rw [hl] at hl'
              cases hl'
              simp only [Rp] at hR'
              obtain ⟨A', n', c', e1, e2, e3, e4, e5, e6, e7, _⟩ := hR'
              rw [hv, q1] at e1
              cases e1
              have hes : es' = [] := List.length_eq_zero_iff.1 (by omega)
              subst hes
              exact ⟨[g], ⟨_, n, c, q1, e2, q3, q4, e6, e7, e5, .inr ⟨g, o, [], [], rfl, by omega, hth g a3, by simp [RpE], fun j u hu => by simp at hu, by rw [a7 hdz.2]; omega, fun _ => a7 hdz.2, (fun h => by cases h), fun _ => ⟨rfl, fun be hb => by simp at hb⟩, (fun h => by cases h)⟩⟩, by simp, fun y hy => by simp at hy; rw [hy]; exact hgω⟩
          · refine ⟨(g, o + n * row.k) :: G, ?_, by simpa [eF] using hnd, fun be hb => ?_, fun r' row' e hl' w' es' hR' hth hsz _ => ?_⟩
            · simp only [Rp]
              exact ⟨_, n, c, hv.trans q1, q2, q3, q4, q7, q5, q6, .inr ⟨by omega, g, o, xs, G, rfl, rfl, a4, a5⟩⟩
            · rcases List.mem_cons.1 hb with rfl | hb
              · exact ⟨r, by simp [rowsOf], hgω, a7 hdz.2, a3⟩
              · exact ⟨r, by simp [rowsOf], hω _ (by rw [eF]; exact List.mem_cons_of_mem _ (List.mem_map_of_mem hb)), (hz be hb).1, (hz be hb).2⟩
            · cases e
              rw [hl] at hl'
              cases hl'
              simp only [Rp] at hR'
              obtain ⟨A', n', c', e1, e2, e3, e4, e5, e6, e7, e8⟩ := hR'
              rw [hv, q1] at e1
              cases e1
              rcases e8 with ⟨e8, _⟩ | ⟨_, b', o', xs', G', e9, e10, e11, e12⟩
              · omega
              · cases e9
                simp only [List.cons.injEq, true_and] at e10
                subst e10
                refine ⟨g :: G.map Prod.fst, ⟨_, n, c, q1, e2, q3, q4, e6, e7, e5, .inr ⟨g, o, xs', G, rfl, by omega, hth g a3, e11, e12, by rw [a7 hdz.2]; omega, fun _ => a7 hdz.2, (fun h => by cases h), fun _ => ⟨rfl, fun be hb => ⟨(hz be hb).1, hth _ (hz be hb).2⟩⟩, (fun h => by cases h)⟩⟩, by rw [← eF]; exact hnd, fun y hy => hω y (by rw [eF]; exact hy)⟩
      · cases hx
    · cases hx
  | ptr b o => simp [cellM] at hx
  | ept r k i o => simp [cellM] at hx
  | dpt cs => simp [cellM] at hx
  | agg cs => simp [cellM] at hx
  | tup cs => simp [cellM] at hx
  | und => simp [cellM] at hx
  | any => simp [cellM] at hx
theorem cellsM_rel(hi:Inv γ h0 io w0 s f w):∀(cs:List C) {vs:List Value} {ds:List D},CRs γ w cs vs→cellsM s cs=some ds→
  ∃Fs,RpL w ds vs Fs∧(∀G∈Fs,∀be∈G,∃r∈rowsOf cs,γ.ω be.1=.row r∧γ.h be.1=0∧Thaw w be.1)∧((rowsOf cs).Nodup→(Fs.flatten.map Prod.fst).Nodup)∧
   ∀w' ds' acc acc',RpL w' ds' vs Fs→(∀g,Thaw w g→Thaw w' g)→w.heap.size≤w'.heap.size→backM s cs ds' acc=some acc'→acc'.sl=acc.sl∧acc'.bx=acc.bx∧
    ∀q x,look acc'.rw q=some x→look acc.rw q=some x∨(q∈rowsOf cs∧∃F,RowR γ.h w' x (γ.sl q) F∧F.Nodup∧∀g∈F,γ.ω g=.row q)
 |[],vs,ds,hc,hd=>by
  simp only[cellsM,Option.some.injEq]at hd;subst hd;simp only[CRs]at hc;subst hc;refine⟨[],by simp[RpL],fun G hG=>by simp at hG,fun _=>by simp,fun w' ds' acc acc' hr _ _ hb=>?_⟩;cases ds' with
  |nil=>simp only[backM,Option.some.injEq]at hb;subst hb;exact⟨rfl,rfl,fun q x h=>.inl h⟩
  |cons d ds=>simp[backM]at hb
 |c::cs,vs,ds,hc,hd=>by
  simp only[cellsM]at hd
  split at hd
  ·rename_i x hx;simp only[Option.map_eq_some_iff]at hd;obtain⟨ds0,hd,rfl⟩:=hd;simp only[CRs]at hc;obtain⟨v,vs',rfl,hv,hvs⟩:=hc;obtain⟨G0,k1,k2,k3,k4⟩:=cellM_rel hi hv hx;obtain⟨Fs,l1,l2,l3,l4⟩:=cellsM_rel hi cs hvs hd;have hrow:∀r∈rowsOf [c],rowsOf (c::cs)=r::rowsOf cs:=fun r hr=>by
    cases c<;>simp[rowsOf]at hr ⊢
    exact hr.symm
   have hsub:∀r∈rowsOf cs,r∈rowsOf (c::cs):=fun r hr=>by
    cases c<;>simp[rowsOf,hr]
   refine⟨G0::Fs,by simp only[RpL];exact⟨v,vs',G0,Fs,rfl,rfl,k1,l1⟩,fun G hG be hb=>?_,fun hn=>?_,fun w' ds' acc acc' hr hth hsz hb=>?_⟩
   ·rcases List.mem_cons.1 hG with rfl|hG
    ·obtain⟨r,hr,h1⟩:=k3 be hb;exact⟨r,by rw[hrow r hr];simp,h1⟩
    ·obtain⟨r,hr,h1⟩:=l2 G hG be hb;exact⟨r,hsub r hr,h1⟩
   ·have hn':(rowsOf cs).Nodup:=by
     cases c<;>simp[rowsOf]at hn<;>first|exact hn|exact hn.2
    rw[List.flatten_cons,List.map_append,List.nodup_append];refine⟨k2,l3 hn',?_⟩;intro a ha b hb e;subst e;obtain⟨be,hbe,rfl⟩:=List.mem_map.1 ha;obtain⟨be',hbe',e⟩:=List.mem_map.1 hb;obtain⟨G,hG,hbe'⟩:=List.mem_flatten.1 hbe';obtain⟨r,hr,h1,_⟩:=k3 be hbe;obtain⟨q,hq,h2,_⟩:=l2 G hG be' hbe';rw[e,h1]at h2;cases h2;rw[hrow r hr]at hn;exact (List.nodup_cons.1 hn).1 hq
   ·cases ds' with
    |nil=>simp only[RpL]at hr;cases hr.1
    |cons d' ds'=>
     simp only[RpL]at hr;obtain⟨v',vs'',F',Fs',e1,e2,hr1,hr2⟩:=hr;cases e1;cases e2;have other:(∀r,c≠.ref r)→backM s cs ds' acc=some acc'→acc'.sl=acc.sl∧acc'.bx=acc.bx∧∀q x,look acc'.rw q=some x→look acc.rw q=some x∨(q∈rowsOf (c::cs)∧∃F,RowR γ.h w' x (γ.sl q) F∧F.Nodup∧∀g∈F,γ.ω g=.row q):=by
      intro _ hb;obtain⟨m1,m2,m3⟩:=l4 w' ds' acc acc' hr2 hth hsz hb;exact⟨m1,m2,fun q x h=>(m3 q x h).imp id (fun h=>⟨hsub q h.1,h.2⟩)⟩
     cases c with
     |ref r=>
      cases d' with
      |list k fl es=>
       simp only[backM]at hb
       split at hb
       ·rename_i row hl
        split at hb
        ·rename_i hkf;obtain⟨rfl,rfl⟩:=hkf;have hpx:x.plain=false:=by
          simp only[cellM,hl]at hx
          split at hx
          ·simp only[Option.some.injEq]at hx;rw[← hx];rfl
          ·cases hx
         obtain⟨m1,m2,m3⟩:=l4 w' ds' _ acc' hr2 hth hsz hb;obtain⟨F,n1,n2,n3⟩:=k4 r row rfl hl w' es hr1 hth hsz hpx;refine⟨m1,m2,fun q y h=>?_⟩;rcases m3 q y h with h5|h
         ·rw[look_setRow]at h5;clear h
          split at h5
          ·rename_i hq;subst hq;cases h5;exact .inr ⟨by simp[rowsOf],F,n1,n2,n3⟩
          ·exact .inl h5
         ·exact .inr ⟨hsub q h.1,h.2⟩
        ·cases hb
       ·cases hb
      |int _ _=>simp[backM]at hb
      |bool _=>simp[backM]at hb
      |str _=>simp[backM]at hb
     |d y=>exact other (fun r h=>by cases h) (by simpa [backM] using hb)
     |nil k fl=>exact other (fun r h=>by cases h) (by simpa [backM] using hb)
     |ptr b o=>simp[cellM]at hx
     |ept r k i o=>simp[cellM]at hx
     |dpt cs=>simp[cellM]at hx
     |agg cs=>simp[cellM]at hx
     |tup cs=>simp[cellM]at hx
     |und=>simp[cellM]at hx
     |any=>simp[cellM]at hx
  ·cases hd
variable {ty:TypeId} {pos:String} {aft:Array Edge} {gd:Option (Nat×Bool)}
theorem n_mark(hi:Inv γ h0 io w0 s f w){g:Nat}{fn:Func}(hfn:P.funcs[num g]?=some fn)(hbd:fn.body.isSome=true)(hnm:(fn.name == "runtime.NumGoroutine")=false){x x2:Operand}{y y2:KX}{ts:Array TypeId}(hx:okX N x y=true)(hx2:okX N x2 y2=true)
  (hmf:∀ag ds q ds' q',mf g ag ds q=some (ds',q')→MarkAt w0 io P (num g) ag ds q ds' q') {d:Nat} (he:evN cf mf s (some d) (.mrk g y y2)=some s') (hK:∀γ' f' w',Inv γ' h0 io w0 s' f' w'→Tr (some d) (touch s (some d) (.mrk g y y2)) γ w γ' w' f f'→K' f' w') :
  Op1 P N ⟨some d,.call {callee:=.value (.func (num g)),args:=#[x,x2],argTypes:=ts },ty,pos,aft,gd⟩ f w K':=by
 simp only[evN]at he
 split at he
 ·rename_i d0 q hd0 hq;cases hd0
  split at he
  ·rename_i ds hds
   split at he
   ·rename_i hnd;rw[nodupB_iff]at hnd
    split at he
    ·rename_i ds' q' hmfe;simp only[Option.map_eq_some_iff]at he;obtain⟨acc,hb,rfl⟩:=he;have hr2:=evX_rel hi hx2;rw[hq]at hr2;obtain⟨hqv,hqw⟩:=cr_int hr2;have hcell:(evX s y).cells.all C.cell=true:=by
      have:∀(cs:List C) {ds:List D},cellsM s cs=some ds→cs.all C.cell=true:=by
       intro cs
       induction cs with
       |nil=>intro ds _;rfl
       |cons c cs ih=>
        intro ds h;simp only[cellsM]at h
        split at h
        ·rename_i z hz;simp only[Option.map_eq_some_iff]at h;obtain⟨ds1,h1,_⟩:=h;simp only[List.all_cons,ih h1,Bool.and_true];cases c<;>simp[cellM]at hz<;>rfl
        ·cases h
      exact this _ hds
     obtain⟨c1,c2,c3⟩:=(evX_rel hi hx).cells hcell;obtain⟨Fs,l1,l2,l3,l4⟩:=cellsM_rel hi _ c1 hds;have hFb:∀z∈Fs.flatten.map Prod.fst,∃r∈rowsOf (evX s y).cells,γ.ω z=.row r:=fun z hz=>by
      obtain⟨be,hbe,rfl⟩:=List.mem_map.1 hz;obtain⟨G,hG,hbe⟩:=List.mem_flatten.1 hbe;obtain⟨r,hr,h1,_⟩:=l2 G hG be hbe;exact⟨r,hr,h1⟩
     have hcall:=hmf _ _ _ _ _ hmfe w γ.h ((fr f N).eval x) _ Fs hi.size hi.frame (fun z hz=>by
       obtain⟨r,_,h1⟩:=hFb z hz;exact (hi.own z (by rw[h1];simp)).2) l1 (fun hag=>by
       obtain⟨vs,e⟩:=c3 hag;rw[e];simp[Value.cells]) (fun hag=>by rw[c2 hag]) hqw (l3 hnd) (fun G hG be hbe=>by
       obtain⟨r,_,_,h1,h2⟩:=l2 G hG be hbe;exact⟨h1,h2⟩) hi.hnew
     refine o_call (x_call (callFunc_run hfn hbd hnm) rfl (a2 rfl hqv)) hcall fun e w' hp=>?_;obtain⟨rfl,hqw',hr',_,hch⟩:=hp;refine⟨_,rfl,?_⟩;have hadv:Adv γ (fun o=>∃i∈rowsOf (evX s y).cells,o=.row i) w w':={
      os:=hch.os,tape:=hch.tape,output:=hch.output,size:=hch.size
      block:=fun z hz hn=>hch.block z hz (fun hF=>by
       obtain⟨r,hr,h1⟩:=hFb z hF;exact hn ⟨r,hr,h1⟩)
      cell:=fun z j hj=>by
       rcases Nat.lt_or_ge z w.heap.size with hl|hl
       ·exact hch.cell z j hl hj
       ·have:=hi.hnew z hl;omega
      kthaw:=hch.kthaw }
     have hlk:∀r∈rowsOf (evX s y).cells,look (dropRows s (rowsOf (evX s y).cells)).rw r=none:=fun r hr=>by rw[look_dropRows,if_pos hr]
     have i0:Inv γ h0 io w0 (dropRows s (rowsOf (evX s y).cells)) f w:=hi.sub (fun e c hl=>by rw[(dropRows_sl _ _).1]at hl;exact hl) (fun e c hl=>by rw[(dropRows_sl _ _).2]at hl;exact hl) (fun e c hl=>by
      rw[look_dropRows]at hl
      split at hl
      ·cases hl
      ·exact hl)
     have i1:=i0.adv hadv (by rintro⟨r,_,h⟩;cases h) (fun b h=>by obtain⟨r,_,h⟩:=h;cases h) (fun r h=>by obtain⟨r',hr',h⟩:=h;cases h;exact hlk r hr');obtain⟨m1,m2,m3⟩:=l4 w' ds' _ acc hr' hch.kthaw hch.size hb;have i2:Inv γ h0 io w0 acc f w':={i1 with
      sl:=fun e c hl=>i1.sl e c (by rw[← m1];exact hl)
      bx:=fun e c hl=>i1.bx e c (by rw[← m2];exact hl)
      rw:=fun r z hl=>by
       rcases m3 r z hl with h|⟨_,h⟩
       ·exact i1.rw r z h
       ·exact h }
     refine hK γ _ w' (i2.put d _ _ (rp_int hqw')) ⟨⟨hadv.os,hadv.tape,hadv.output,hadv.size,fun z hz hn=>hadv.block z hz (fun h=>hn ?_),hadv.cell,hadv.kthaw⟩,fun _ _=>rfl,fun _=>Nat.le_refl _,.put⟩;obtain⟨r,hr,h⟩:=h;exact⟨r,hr,.inr h⟩
    ·cases he
   ·cases he
  ·cases he
 ·cases he
end
end
section
open Go.RowKit
section
variable {P:Program} {γ:Gh} {h0:Nat→Nat} {io:List Nat} {w0:World} {s s':St} {f:Fm} {w:World} {N:Nat} {ty:TypeId} {pos:String} {aft:Array Edge} {gd:Option (Nat×Bool)} {K:Fm→World→Prop}
 {cf:Nat→List A→Option (List A×List A)} {mf:Nat→Bool→List D→Int→Option (List D×Int)}
theorem n_cpy(hi:Inv γ h0 io w0 s f w){T T' E:TypeId}{k:Nat}{x y:Operand}{a b:KX}{d:Nat}(hU:P.underlying T=some (.slice E))(hS:sizeB P E=some k)(hx:okX N x a=true)(hy:okX N y b=true)(he:evN cf mf s (some d) (.cpy k a b)=some s')
  (h:∀γ' f' w',Inv γ' h0 io w0 s' f' w'→Tr (some d) (touch s (some d) (.cpy k a b)) γ w γ' w' f f'→K f' w') :
  Op1 P N ⟨some d,.call {callee:=.builtin .copy,args:=#[x,y],argTypes:=#[T,T'] },ty,pos,aft,gd⟩ f w K:=by
 have hpx:=evX_rel hi hx;have hpy:=evX_rel hi hy;simp only[evN]at he
 split at he
 ·rename_i d0 r k' fl' es hd0 hxa hyb;cases hd0;rw[hxa]at hpx;rw[hyb]at hpy;simp only[CR,Rp]at hpx hpy;obtain⟨F,⟨A2,m,c2,y1,y2,y3,y4,y5,y6,y7,y8⟩,hset⟩:=hpy
  split at he
  ·rename_i row hl
   split at he
   ·rename_i hc;obtain⟨rfl,rfl,rfl,hrf,hfz,happ,hle⟩:=hc;simp only[Option.some.injEq]at he;subst he;obtain⟨γ2,A,n,c,i2,b2,sl2,hh2,o2,l2,q1,q2,q3,q4,q5,q6,q7,q8⟩:=hi.openRow hl;have hxv:(fr f N).eval x=.slice A n c:=hpx.1.trans q1;have hrX:r∈touch s (some d) (.cpy row.k a b):=by simp[touch,hxa,rowsOf]
    have hnm:n=m:=by omega
    subst hnm;have hbd:IntKind.i64.wrap (n:Int)=(n:Int):=i64_wrap (by simp only[maxLen]at q4;omega);have hrun:∀{w':World},(Builtin.copy_ #[T,T'] ty #[(fr f N).eval x,(fr f N).eval y]).run P w=.ok (.int .i64 n) w'→(execOp (fr f N).eval ⟨some d,.call {callee:=.builtin .copy,args:=#[x,y],argTypes:=#[T,T'] },ty,pos,aft,gd⟩).run P w=.ok (.value (.int .i64 n)) w':=by
     intro w' hr;simp[execOp,resolve,invoke,builtin,hr]
    have hgo:goInt n=.int .i64 (n:Int):=rfl;rcases y8 with ⟨y8,rfl⟩|⟨hpos,bb,oo,xs2,G2,rfl,rfl,a2',a3'⟩
    ·
     have hes:es=[]:=List.eq_nil_of_length_eq_zero (by omega);have hre:row.es=[]:=List.eq_nil_of_length_eq_zero (by omega);subst y8;refine o_val' (hrun (w':=w) ?_) ?_
     ·rw[hxv,y1];cases A<;>cases A2<;>simp[Builtin.copy_,run_underlying hU,run_sizeOf hS,Builtin.lenOf,Builtin.firstCells,loadCells,loadCellsFrom,storeCells,goInt]
     ·have e1:s.setRow r {row with es:=es }=s.setRow r row:=by rw[hes,← hre]
      have i3:Inv γ h0 io w0 (s.setRow r row) f w:={hi with
       rw:=fun q z hz=>by
        simp only[St.setRow,look]at hz;by_cases hq:r=q
        ·subst hq;simp at hz;subst hz;exact hi.rw r row hl
        ·rw[if_neg hq,look_drp]at hz
         split at hz
         ·cases hz
         ·exact hi.rw q z hz }
      have e2:es.length=0:=by rw[hes];rfl
      refine h γ _ w ?_ ⟨Adv.refl _ _ _,fun _ _=>rfl,fun _=>Nat.le_refl _,.put⟩;rw[e1,e2];exact i3.put d _ _ (rp_int rfl)
    ·have hG2:G2=[]:=a2'.plain (y5 rfl);subst hG2;rcases q8 with ⟨rfl,rfl⟩|⟨g,o,xs,G,rfl,a2,a3,a4,a5,a6,a7,a8,a9,a10,a11,a12⟩
     ·omega
     obtain⟨rfl,T'',vs,hB,hvl⟩:=a10 happ;have hG:G=[]:=a6.plain (q7 hrf);subst hG;have hg0:γ.h g=0:=a9 hfz;have hl2:xs2.length=n * row.k:=by rw[RpE.length es a2' y7,y2]
     have hck:n * row.k≤c * row.k:=Nat.mul_le_mul_right _ q3;have hone:=a2'.isOne;have hf:=run_firstCells_some (P:=P) w row.k n ⟨bb,oo,none⟩ n c2 xs2 hl2 (fun j v hv=>by rw[add_mk];exact a3' j v hv);have hst:=run_storeCells (P:=P) (o:=0) xs2 0 w vs hB (by omega) hone;simp only[Nat.add_zero]at hst;refine o_val' (hrun (w':=setB w g (.cells (splice vs 0 xs2).toArray T'' (0,0))) ?_) ?_
     ·rw[hxv,y1];simp[Builtin.copy_,run_underlying hU,run_sizeOf hS,Builtin.lenOf,hf,hst,goInt]
     have hoff:=Off.setB w g (splice vs 0 xs2).toArray T'';have hadv:Adv γ (fun o=>∃i∈touch s (some d) (.cpy row.k a b),o=.box i∨o=.row i) w _:=adv_off hi hoff ⟨r,hrX,.inr a3⟩ (fun j hj=>by rw[hg0]at hj;omega);have h5:=i2.adv (adv_off i2 hoff (M:=fun o=>o=.lim) a4 (fun j hj=>by rw[hh2,hg0]at hj;omega)) (by simp) (fun b hb=>by cases hb) (fun r hr=>by cases hr);have hspl:splice vs 0 xs2=xs2++vs.drop xs2.length:=by simp[splice]
     have hlies:Lies (setB w g (.cells (splice vs 0 xs2).toArray T'' (0,0))) g 0 xs2:=by
      have h7:=(hB.setSame T'' (splice vs 0 xs2)).lies;intro j u hu;refine h7 j u ?_;rw[hspl,List.getElem?_append_left (List.getElem?_eq_some_iff.1 hu).1];exact hu
     have hr':RpE (setB w g (.cells (splice vs 0 xs2).toArray T'' (0,0))) es xs2 []:=a2'.keep _ (fun be hb=>by simp at hb);obtain⟨γ3,h6,h7,h8,h9,_,_⟩:=h5.closeSame (r:=r) (x:={row with es:=es }) (n:=n) (c:=c) (g:=g) (o:=0) y2 q3 q4 q5 y7 (fun _=>y5 rfl)
      (by rw[size_setB];exact a2) (.inl a4) (i2.own g (by rw[a4];simp)).2 ⟨by rw[size_setB];omega,hoff.fz⟩ hr' hlies (by rw[hh2,hg0];omega) (fun _=>by rw[hh2,hg0]) (fun _=>⟨rfl,T'',_,hB.setSame T'' _,by rw[splice_len (by omega)];exact hvl⟩)
      (fun be hb=>by simp at hb) (fun _=>⟨by simp,fun be hb=>by simp at hb⟩) (by rw[sl2];exact q1)
     have e6:(s.dropRow r).setRow r {row with es:=es }=s.setRow r {row with es:=es }:=by
      have:drp (drp s.rw r) r=drp s.rw r:=by simp[drp,List.filter_filter]
      simp[St.setRow,St.dropRow,this]
     rw[e6]at h6;refine h γ3 _ _ ?_ ⟨hadv,fun _ _=>by rw[h8,b2],fun z=>by have:=h9 z;rw[hh2]at this;exact this,.put⟩;rw[← y2];exact h6.put d _ _ (rp_int hbd)
   ·cases he
  ·cases he
 ·cases he
end
end
section
open Go.RowKit
def JoinOk(P:Program)(F:FuncId):Prop:=
 ∀(w:World) (g:Nat) (T:TypeId) (bs es:List Bool) (c:Nat) (b o m cc:Nat) (rest:List Value),Blk w g T (bs.map Value.bool++rest)→Lies w b o (es.map Value.bool)→b≠g→es.length=bs.length→bs.length≤maxLen→
  Calls P F #[.slice (some ⟨g,0,none⟩) bs.length c,.slice (some ⟨b,o,none⟩) es.length cc] w fun e w'=>e=.returned (.bool (grewB bs es))∧w'=setB w g (.cells ((joinB bs es).map Value.bool++rest).toArray T (0,0))
def Cts(w0:World)(io:List Nat)(P:Program)(num:Nat→FuncId)(cf:Nat→List A→Option (List A×List A)):Prop:=
 (∀g a r o,cf g a=some (r,o)→CallAt w0 io P (num g) a r o)∧(num 9004≠1000000→JoinOk P (num 9004))
section
variable {P:Program} {γ:Gh} {h0:Nat→Nat} {io:List Nat} {w0:World} {s s':St} {f:Fm} {w:World} {N:Nat} {ty:TypeId} {pos:String} {aft:Array Edge} {gd:Option (Nat×Bool)} {K:Fm→World→Prop}
 {cf:Nat→List A→Option (List A×List A)} {mf:Nat→Bool→List D→Int→Option (List D×Int)}
def Gh.ren(γ:Gh)(q i:Nat):Gh:=⟨γ.h,γ.β,fun r=>if r=i then γ.sl q else γ.sl r,fun g=>if γ.ω g=.row q then .row i else γ.ω g⟩
mutual
theorem CR.ren(γ:Gh)(w:World)(q i:Nat):∀(c:C) {v:Value},CR γ w c v→CR (γ.ren q i) w (c.ren q i) v
 | .d x,v,h=>by simp only[CR,C.ren,Gh.ren]at h ⊢;exact h
 | .nil k fl,v,h=>by simp only[CR,C.ren]at h ⊢;exact h
 | .ref r,v,h=>by
  simp only[CR]at h;simp only[C.ren];split
  ·rename_i e;subst e;simp only[CR,Gh.ren,if_true];exact h
  ·split
   ·simp only[CR]
   ·rename_i e1 e2;simp only[CR,Gh.ren,if_neg e2];exact h
 | .ptr b o,v,h=>by simp only[CR,C.ren,Gh.ren]at h ⊢;exact h
 | .ept r k a o,v,h=>by
  simp only[CR]at h;simp only[C.ren];split
  ·rename_i e;subst e;simp only[CR,Gh.ren,if_true];exact h
  ·split
   ·simp only[CR]
   ·rename_i e1 e2;simp only[CR,Gh.ren,if_neg e2];exact h
 | .dpt cs,v,h=>by simp only[CR,C.ren,Gh.ren]at h ⊢;exact h
 | .agg cs,v,h=>by
  simp only[CR,C.ren]at h ⊢;obtain⟨vs,h1,h2⟩:=h;exact⟨vs,h1,CRs.ren γ w q i cs h2⟩
 | .tup cs,v,h=>by
  simp only[CR,C.ren]at h ⊢;obtain⟨vs,h1,h2⟩:=h;exact⟨vs,h1,CRs.ren γ w q i cs h2⟩
 | .und,v,h=>by simp only[CR,C.ren]at h ⊢;exact h
 | .any,v,h=>by simp only[CR,C.ren]
theorem CRs.ren(γ:Gh)(w:World)(q i:Nat):∀(cs:List C) {vs:List Value},CRs γ w cs vs→CRs (γ.ren q i) w (C.rens q i cs) vs
 |[],vs,h=>by simp only[CRs,C.rens]at h ⊢;exact h
 |c::cs,vs,h=>by
  simp only[CRs,C.rens]at h ⊢;obtain⟨v,vs',h1,h2,h3⟩:=h;exact⟨v,vs',h1,CR.ren γ w q i c h2,CRs.ren γ w q i cs h3⟩
end
theorem look_renS(q i:Nat)(l:List (Nat×C))(d:Nat):look (renS q i l) d=(look l d).map (C.ren q i):=by
 induction l with
 |nil=>rfl
 |cons p l ih=>
  obtain⟨k,x⟩:=p;unfold renS at ih ⊢;simp only[List.map_cons,look,ih]
  split<;>rfl
theorem look_renB(q i:Nat)(l:List (Nat×List C))(d:Nat):look (renB q i l) d=(look l d).map (C.rens q i):=by
 induction l with
 |nil=>rfl
 |cons p l ih=>
  obtain⟨k,x⟩:=p;unfold renB at ih ⊢;simp only[List.map_cons,look,ih]
  split<;>rfl
theorem Inv.ren(hi:Inv γ h0 io w0 s f w){q i:Nat}{row:Row}(hl:look s.rw q=some row):Inv (γ.ren q i) h0 io w0 (s.ren q i row) f w:={hi with
 sl:=fun d c h=>by
  simp only[St.ren,look_renS,Option.map_eq_some_iff]at h;obtain⟨c',h1,rfl⟩:=h;exact CR.ren γ w q i c' (hi.sl d c' h1)
 bx:=fun b cs h=>by
  simp only[St.ren,look_renB,Option.map_eq_some_iff]at h;obtain⟨cs',h1,rfl⟩:=h;obtain⟨T,vs,h2,h3,h4⟩:=hi.bx b cs' h1;exact⟨T,vs,h2,CRs.ren γ w q i cs' h3,by simp[Gh.ren,h4]⟩
 rw:=fun r x h=>by
  simp only[St.ren,look]at h;by_cases hr:i=r
  ·subst hr;simp only[if_true,Option.some.injEq]at h;subst h;obtain⟨F,h1,h2,h3⟩:=hi.rw q row hl;exact⟨F,by simp only[Gh.ren,if_true];exact h1,h2,fun g hg=>by simp[Gh.ren,h3 g hg]⟩
  ·rw[if_neg hr,look_drp,if_neg hr,look_drp]at h
   split at h
   ·cases h
   ·rename_i hq;obtain⟨F,h1,h2,h3⟩:=hi.rw r x h;exact⟨F,by simp only[Gh.ren,if_neg (Ne.symm hr)];exact h1,h2,fun g hg=>by simp[Gh.ren,h3 g hg,Ne.symm hq]⟩
 own:=fun g hg=>hi.own g (fun e=>hg (by simp[Gh.ren,e]))
 hbox:=fun g b hg=>hi.hbox g b (by
  simp only[Gh.ren]at hg
  split at hg
  ·cases hg
  ·exact hg) }
theorem n_mvr(hi:Inv γ h0 io w0 s f w){op:Op}{x:Operand}{y:KX}{d:Nat}(hop:op=.assign x∨op=.move x)(hx:okX N x y=true)(he:evN cf mf s (some d) (.mvr y)=some s')
  (h:∀γ' f' w',Inv γ' h0 io w0 s' f' w'→Tr (some d) (touch s (some d) (.mvr y)) γ w γ' w' f f'→K f' w'):Op1 P N ⟨some d,op,ty,pos,aft,gd⟩ f w K:=by
 have hpx:=evX_rel hi hx;have hrun:(execOp (fr f N).eval ⟨some d,op,ty,pos,aft,gd⟩).run P w=.ok (.value ((fr f N).eval x)) w:=by
  rcases hop with rfl|rfl
  ·exact x_assign rfl
  ·exact x_move rfl
 refine o_val hrun ?_;simp only[evN]at he
 split at he
 ·rename_i q hq;rw[hq]at hpx
  split at he
  ·rename_i row hl;simp only[Option.some.injEq]at he;subst he;have i1:=hi.ren (i:=rid d 0) hl;exact h _ _ _ (i1.put d (.ref (rid d 0)) _ (by
    simp only[CR]at hpx ⊢
    simpa [Gh.ren] using hpx)) ⟨Adv.refl _ _ _,fun _ _=>rfl,fun _=>Nat.le_refl _,.put⟩
  ·cases he
 ·rename_i hq;simp only[Option.some.injEq]at he;subst he;exact h _ _ _ (hi.put d _ _ hpx) ⟨Adv.refl _ _ _,fun _ _=>rfl,fun _=>Nat.le_refl _,.put⟩
theorem bools_rel:∀(es:List (List D)) {bs:List Bool} {xs:List Value} {G:Fp},bools es=some bs→RpE w es xs G→xs=bs.map Value.bool∧G=[]∧bs.length=es.length
 |[],bs,xs,G,h,hr=>by
  simp only[bools,Option.some.injEq]at h;subst h;simp only[RpE]at hr;simp[hr.1,hr.2]
 |e::es,bs,xs,G,h,hr=>by
  match e,h with
  |[.bool b],h=>
   simp only[bools,Option.map_eq_some_iff]at h;obtain⟨cs,h1,rfl⟩:=h;simp only[RpE,RpC,Rp]at hr;obtain⟨v1,v2,F1,F2,rfl,rfl,⟨v,vs',G1,G2,rfl,rfl,⟨rfl,rfl⟩,rfl,rfl⟩,h2⟩:=hr;obtain⟨rfl,rfl,h3⟩:=bools_rel es h1 h2;simp[h3]
  |[],h=>simp[bools]at h
  |[.int _ _],h=>simp[bools]at h
  |[.str _],h=>simp[bools]at h
  |[.list _ _ _],h=>simp[bools]at h
  |_::_::_,h=>simp[bools]at h
theorem rpE_bools:∀(bs:List Bool),RpE w (bs.map fun b=>[D.bool b]) (bs.map Value.bool) []
 |[]=>by simp[RpE]
 |b::bs=>by
  simp only[List.map_cons,RpE,RpC,Rp];exact⟨[.bool b],_,[],[],rfl,rfl,⟨.bool b,[],[],[],rfl,rfl,⟨rfl,rfl⟩,rfl,rfl⟩,rpE_bools bs⟩
theorem joinB_len:∀(bs es:List Bool),(joinB bs es).length=bs.length
 |[],es=>by cases es<;>simp[joinB]
 |b::bs,[]=>by simp[joinB]
 |b::bs,e::es=>by simp[joinB,joinB_len bs es]
theorem jn_src(hi:Inv γ h0 io w0 s f w){r:Nat}{c:C}{v:Value}{es:List (List D)}(hc:CR γ w c v)(he:jnSrc s r c=some es)(hne:es≠[]) :
  ∃b o n cc xs G,v=.slice (some ⟨b,o,none⟩) n cc∧n=es.length∧RpE w es xs G∧Lies w b o xs∧∀g,γ.ω g=.row r→γ.h g=0→b≠g:=by
 have hl:0 < es.length:=List.length_pos_iff.2 hne;unfold jnSrc at he
 split at he
 ·rename_i fl es';simp only[Option.some.injEq]at he;subst he;simp only[CR,Rp]at hc;obtain⟨F,⟨A,n,cc,q1,q2,q3,q4,q5,q6,q7,q8⟩,hset⟩:=hc;rcases q8 with ⟨q8,_⟩|⟨_,b,o,xs,G,rfl,rfl,a2,a3⟩
  ·omega
  ·refine⟨b,o,n,cc,xs,G,q1,q2,a2,a3,fun g _ hg e=>?_⟩;have:=hset (b,o+n * 1) (by simp);simp only at this
   rw[e,hg]at this;omega
 ·rename_i q
  split at he
  ·rename_i row hrow
   split at he
   ·rename_i hq;simp only[Option.some.injEq]at he;subst he;simp only[CR]at hc;obtain⟨F,hR,_,hω⟩:=hi.rw q row hrow;obtain⟨A,n,cc,q1,q2,q3,q4,q5,q6,q7,q8⟩:=hR;rcases q8 with ⟨_,q8,_⟩|⟨b,o,xs,G,rfl,a2,a3,a4,a5,a6,a7,a8,a9,a10⟩
    ·omega
    ·have hb:γ.ω b=.row q:=hω b (by
      cases hd:row.deep with
      |true=>rw[(a9 hd).1];simp
      |false=>rw[(a10 hd).1];simp)
     refine⟨b,o,n,cc,xs,G,hc.1.trans q1,q2,a4,a5,fun g hg _ e=>?_⟩;rw[e,hg]at hb;simp only[Own.row.injEq]at hb;exact hq.2 hb.symm
   ·cases he
  ·cases he
 ·cases he
theorem n_jn(hi:Inv γ h0 io w0 s f w){F0:FuncId}{fn:Func}(hfn:P.funcs[F0]?=some fn)(hbd:fn.body.isSome=true)(hnm:(fn.name == "runtime.NumGoroutine")=false)(hj:JoinOk P F0){ts:Array TypeId}{x y:Operand}{a b:KX}{d:Nat}(hx:okX N x a=true)(hy:okX N y b=true)(he:evN cf mf s (some d) (.jn a b)=some s')
  (h:∀γ' f' w',Inv γ' h0 io w0 s' f' w'→Tr (some d) (touch s (some d) (.jn a b)) γ w γ' w' f f'→K f' w') :
  Op1 P N ⟨some d,.call {callee:=.value (.func F0),args:=#[x,y],argTypes:=ts },ty,pos,aft,gd⟩ f w K:=by
 have hpx:=evX_rel hi hx;have hpy:=evX_rel hi hy;simp only[evN]at he
 split at he
 ·rename_i d0 r hd0 hxa;cases hd0;rw[hxa]at hpx;simp only[CR]at hpx
  split at he
  ·rename_i row es hl hes
   split at he
   ·rename_i hc;obtain⟨hk,hrf,hfz,happ,hle⟩:=hc
    split at he
    ·rename_i bs cs hbs hcs
     split at he
     ·rename_i hne;simp only[Option.some.injEq]at he;subst he;obtain⟨γ2,A,n,c,i2,b2,sl2,hh2,o2,l2,q1,q2,q3,q4,q5,q6,q7,q8⟩:=hi.openRow hl;have hxv:(fr f N).eval x=.slice A n c:=hpx.1.trans q1;have hrX:r∈touch s (some d) (.jn a b):=by simp[touch,hxa,rowsOf]
      have hn0:0 < es.length:=List.length_pos_iff.2 hne;rcases q8 with ⟨rfl,rfl⟩|⟨g,o,xs,G,rfl,a2,a3,a4,a5,a6,a7,a8,a9,a10,a11,a12⟩
      ·omega
      obtain⟨rfl,T,vs,hB,hvl⟩:=a10 happ;have hg0:γ.h g=0:=a9 hfz;obtain⟨rfl,rfl,hbl⟩:=bools_rel _ hbs a6;obtain⟨bb,oo,n2,cc,xs2,G2,y1,y2,y3,y4,y5⟩:=jn_src hi hpy hes hne;obtain⟨rfl,rfl,hcl⟩:=bools_rel _ hcs y3;have hlc:cs.length=bs.length:=by omega
      have hnb:n=bs.length:=by omega
      have hpre:vs=bs.map Value.bool++vs.drop bs.length:=by
       have:vs.take bs.length=bs.map Value.bool:=by
        apply List.ext_getElem?
        intro j;rw[List.getElem?_take];by_cases hj:j < bs.length
        ·rw[if_pos hj];have h7:=a7 j (Value.bool bs[j]) (by simp[hj]);rw[Nat.zero_add,hB.cell]at h7;rw[h7];simp[hj]
        ·rw[if_neg hj,List.getElem?_eq_none (by simp;omega)]
       conv=>lhs;rw[← List.take_append_drop bs.length vs,this]
      have hB':=hB;rw[hpre]at hB';have hcall:=hj w g T bs cs c bb oo n2 cc (vs.drop bs.length) hB' y4 (y5 g a3 hg0) hlc (by omega);have hxv':(fr f N).eval x=.slice (some ⟨g,0,none⟩) bs.length c:=by rw[hxv,hnb]
      have hyv':(fr f N).eval y=.slice (some ⟨bb,oo,none⟩) cs.length cc:=by rw[y1,y2,hcl]
      refine o_call (x_call (callFunc_run hfn hbd hnm) rfl (by simp[hxv',hyv'])) hcall fun e w' hp=>?_;obtain⟨rfl,rfl⟩:=hp;refine⟨_,rfl,?_⟩;have hoff:=Off.setB w g ((joinB bs cs).map Value.bool++vs.drop bs.length).toArray T;have hadv:Adv γ (fun o=>∃i∈touch s (some d) (.jn a b),o=.box i∨o=.row i) w _:=adv_off hi hoff ⟨r,hrX,.inr a3⟩ (fun j hj=>by rw[hg0]at hj;omega);have h5:=i2.adv (adv_off i2 hoff (M:=fun o=>o=.lim) a4 (fun j hj=>by rw[hh2,hg0]at hj;omega)) (by simp) (fun b hb=>by cases hb) (fun r hr=>by cases hr);have hB2:=hB.setSame T ((joinB bs cs).map Value.bool++vs.drop bs.length);have hlies:Lies (setB w g (.cells ((joinB bs cs).map Value.bool++vs.drop bs.length).toArray T (0,0))) g 0 ((joinB bs cs).map Value.bool):=by
       intro j u hu;refine hB2.lies j u ?_;rw[List.getElem?_append_left (List.getElem?_eq_some_iff.1 hu).1];exact hu
      have hjl:=joinB_len bs cs;have hvl2:((joinB bs cs).map Value.bool++vs.drop bs.length).length=c * row.k:=by
       simp only[List.length_append,List.length_map,hjl,List.length_drop];rw[hk]at hvl ⊢;omega
      obtain⟨γ3,h6,h7,h8,h9,_,_⟩:=h5.closeSame (r:=r) (x:={row with es:=(joinB bs cs).map fun b=>[D.bool b] }) (n:=n) (c:=c) (g:=g) (o:=0) (by simp only[List.length_map,hjl];exact hnb) q3 q4 q5
       (fun y hy=>by obtain⟨z,_,rfl⟩:=List.mem_map.1 hy;simp[hk]) (fun _ y hy z hz=>by obtain⟨u,_,rfl⟩:=List.mem_map.1 hy;simp at hz;subst hz;rfl)
       (by rw[size_setB];exact a2) (.inl a4) (i2.own g (by rw[a4];simp)).2 ⟨by rw[size_setB];omega,hoff.fz⟩ (rpE_bools _) hlies (by rw[hh2,hg0];omega) (fun _=>by rw[hh2,hg0]) (fun _=>⟨rfl,T,_,hB2,hvl2⟩)
       (fun be hb=>by simp at hb) (fun _=>⟨by simp,fun be hb=>by simp at hb⟩) (by rw[sl2];exact q1)
      have e6:(s.dropRow r).setRow r {row with es:=(joinB bs cs).map fun b=>[D.bool b] }=s.setRow r {row with es:=(joinB bs cs).map fun b=>[D.bool b] }:=by
       have:drp (drp s.rw r) r=drp s.rw r:=by simp[drp,List.filter_filter]
       simp[St.setRow,St.dropRow,this]
      rw[e6]at h6;exact h γ3 _ _ (h6.put d _ _ rp_bool) ⟨hadv,fun _ _=>by rw[h8,b2],fun z=>by have:=h9 z;rw[hh2]at this;exact this,.put⟩
     ·cases he
    ·cases he
   ·cases he
  ·cases he
 ·cases he
end
end
section
open Go.RowKit
def noD(Ds:List Nat)(l:Array Bool):Prop:=∀m∈Ds,l.getD m false=false
def Cons(Cl:List (List Nat×(World→Prop)))(l:Array Bool)(w:World):Prop:=∀p∈Cl,noD p.1 l→p.2 w
theorem getD_set{l:Array Bool}{i m:Nat}(h:(l.setIfInBounds i true).getD m false=false):l.getD m false=false:=by
 cases h2:l.getD m false with
 |false=>rfl
 |true=>rw[getD_set_true h2]at h;cases h
theorem noD_set{Ds:List Nat}{l:Array Bool}{i:Nat}(h:noD Ds (l.setIfInBounds i true)):noD Ds l:=fun m hm=>getD_set (h m hm)
theorem noD_set'{Ds:List Nat}{l:Array Bool}{i:Nat}(h:noD Ds l)(hi:i∉Ds):noD Ds (l.setIfInBounds i true):=fun m hm=>by
 rw[getD_set_ne false (by intro e;subst e;exact hi hm)];exact h m hm
theorem Cons.set{Cl:List (List Nat×(World→Prop))}{l:Array Bool}{w:World}(h:Cons Cl l w)(i:Nat):Cons Cl (l.setIfInBounds i true) w:=fun p hp hn=>h p hp (noD_set hn)
theorem Cons.unset{Cl:List (List Nat×(World→Prop))}{l:Array Bool}{w:World}{i:Nat}(h:Cons Cl (l.setIfInBounds i true) w)(hi:∀p∈Cl,i∉p.1):Cons Cl l w:=fun p hp hn=>h p hp (noD_set' hn (hi p hp))
section
variable {P:Program} {ops:Array Oper} {Q:Exit→Act→World→Prop} {md:Region.Mode}
def wpAnyW(P:Program)(md:Region.Mode)(ops:Array Oper)(Q:Exit→Act→World→Prop)(Cl:List (List Nat×(World→Prop))):Nat→Array Bool→Act→World→Prop
 |0,listed,a,w=>Region.ready md ops listed=[]∧Q .normal a w
 |fuel+1,listed,a,w=>
  (Region.ready md ops listed=[]→Q .normal a w)∧
  ∀i∈Region.ready md ops listed,wpOp P ops Q i (fun a' w'=>Cons Cl (listed.setIfInBounds i true) w'∧wpAnyW P md ops Q Cl fuel (listed.setIfInBounds i true) a' w') a w
theorem wpAny_of_W{Cl:List (List Nat×(World→Prop))}:∀(fuel:Nat) (listed:Array Bool) (a:Act) (w:World),wpAnyW P md ops Q Cl fuel listed a w→wpAny P md ops Q fuel listed a w
 |0,_,_,_,h=>h
 |fuel+1,_,_,_,h=>⟨h.1,fun i hi=>wpOp_mono (fun a' w' h'=>wpAny_of_W fuel _ a' w' h'.2) (h.2 i hi)⟩
def okD(md:Region.Mode)(ops:Array Oper)(i:Nat)(al:List Nat):Bool:=al.all fun j=>match ops[j]? with
 |some o=>o.after.any fun e=>Region.binds md e && (e.on ==i ||al.contains e.on)
 |none=>false
theorem okD_spec{i:Nat}{al:List Nat}(h:okD md ops i al=true){listed:Array Bool}(hi:listed.getD i false=false)(hn:noD al listed){j:Nat}(hj:j∈Region.ready md ops listed):j∉al:=by
 intro hm;have h1:=List.all_eq_true.1 h j hm;obtain⟨_,o,ho,hall⟩:=mem_ready.1 hj;rw[ho]at h1;obtain⟨e,he,hb⟩:=Array.any_eq_true'.1 h1;simp only[Bool.and_eq_true,Bool.or_eq_true,beq_iff_eq,List.contains_iff_mem]at hb;have h2:=hall e he hb.1;rcases hb.2 with h3|h3
 ·rw[h3,hi]at h2;cases h2
 ·rw[hn _ h3]at h2;cases h2
theorem takeW{Cl:List (List Nat×(World→Prop))}{i:Nat}{oi:Oper}{v:Value}{V:World→Prop}{al dn:List Nat}(hi:ops[i]?=some oi)(hsel:∀(j:Nat) (o:Oper) cs b,ops[j]?=some o→o.op≠.select cs b)
  (hQ:∀c a w,Q (.panic c) (a.put oi.dst v) w→Q (.panic c) a w) (hD:okD md ops i al=true) (hdn:∀m∈dn,m∈al) (hid:i∉dn) (hCi:∀p∈Cl,i∉p.1) :
  ∀(fuel:Nat) (listed:Array Bool) (a:Act) (w:World),
   (∀j oj,ops[j]?=some oj→j≠i→listed.getD j true=false→(∀e∈oj.after,Region.binds md e=true→e.on≠i)→oi.apart ops oj=true)→
   i∈Region.ready md ops listed→noD al listed→YieldsIf P ops V oi v a→V w→Cons Cl listed w→
   wpAnyW P md ops Q ((dn,V)::Cl) fuel (listed.setIfInBounds i true) (a.put oi.dst v) w→wpAnyW P md ops Q Cl (fuel+1) listed a w:=by
 intro fuel;have down:∀(fuel:Nat) (listed:Array Bool) (a:Act) (w:World),wpAnyW P md ops Q ((dn,V)::Cl) fuel listed a w→wpAnyW P md ops Q Cl fuel listed a w:=by
  intro fuel
  induction fuel with
  |zero=>intro listed a w h;exact h
  |succ fuel ih=>intro listed a w h;exact⟨h.1,fun j hj=>wpOp_mono (fun a' w' h'=>⟨fun p hp=>h'.1 p (by simp[hp]),ih _ a' w' h'.2⟩) (h.2 j hj)⟩
 induction fuel with
 |zero=>
  intro listed a w _ hr hn hy hV hC H;refine⟨fun h=>(by rw[h]at hr;cases hr),fun j hj=>?_⟩;by_cases hji:j=i
  ·subst hji;exact hy.wpOp hi hV ⟨hC.set j,down _ _ _ _ H⟩
  ·have:=ready_mono hj hji;rw[H.1]at this;cases this
 |succ fuel ih=>
  intro listed a w hfree hr hn hy hV hC H;refine⟨fun h=>(by rw[h]at hr;cases hr),fun j hj=>?_⟩;by_cases hji:j=i
  ·subst hji;exact hy.wpOp hi hV ⟨hC.set j,down _ _ _ _ H⟩
  ·have h1:=H.2 j (ready_mono hj hji);obtain⟨hjun,oj,hoj,hall⟩:=mem_ready.1 hj;have hiun:listed.getD i false=false:=by
    have h0:=(mem_ready.1 hr).1;rcases Nat.lt_or_ge i listed.size with h'|h'
    ·simp[h']at h0 ⊢;exact h0
    ·simp[Array.getElem?_eq_none h']at h0
   have hja:=okD_spec hD hiun hn hj;have hnot:∀e∈oj.after,Region.binds md e=true→e.on≠i:=fun e he hb heq=>by
    have h1:=hall e he hb;rw[heq,hiun]at h1;cases h1
   have h2:=wpOp_putIf (S:=V) hoj (hfree j oj hoj hji hjun hnot) (fun cs b=>hsel i oi cs b hi) (fun cs b=>hsel j oj cs b hoj) hQ hy h1;have hfree':∀k ok,ops[k]?=some ok→k≠i→(listed.setIfInBounds j true).getD k true=false→
     (∀e∈ok.after,Region.binds md e=true→e.on≠i)→oi.apart ops ok=true:=fun k ok hk hki hun hno=>by
    refine hfree k ok hk hki ?_ hno;by_cases hjk:j=k
    ·subst hjk;exact hjun
    ·rw[getD_set_ne true hjk]at hun;exact hun
   refine wpOp_mono (fun a' w' h3=>?_) h2;obtain⟨h3,h4,h5⟩:=h3;have hC':Cons Cl (listed.setIfInBounds j true) w':=by
    rw[Array.setIfInBounds_comm _ _ (Ne.symm hji)]at h4;exact Cons.unset (i:=i) (fun p hp=>h4 p (by simp[hp])) hCi
   have hnj:noD al (listed.setIfInBounds j true):=noD_set' hn hja;have hV':V w':=h4 (dn,V) (by simp) (noD_set' (noD_set' (fun m hm=>hn m (hdn m hm)) hid) (fun hm=>hja (hdn j hm)));refine⟨hC',ih (listed.setIfInBounds j true) a' w' hfree' (ready_mono hr (Ne.symm hji)) hnj h3 hV' hC' ?_⟩;rw[Array.setIfInBounds_comm _ _ hji];exact h5
end
section
variable {P:Program} {N:Nat} {Kn:Fm→World→Prop} {Ke:Nat→Fm→World→Prop} {Kr:Fm→World→Prop} {f:Fm} {w:World} {ops:Array Oper}
structure Ent where
 i:Nat
 q:Bool
 al:List Nat
 dn:List Nat
inductive ET where
 |nil
 |op (e:Ent) (t:ET)
 |alt (e:Ent) (t r:ET)
def ET.len:ET→Nat
 | .nil=>0
 | .op _ t=>t.len+1
 | .alt _ t _=>t.len+1
def ET.allE(p:Ent→Bool):ET→Bool
 | .nil=>true
 | .op e t=>p e && t.allE p
 | .alt e t r=>p e && t.allE p && r.allE p
def ET.heads:ET→List Nat
 | .nil=>[]
 | .op e _=>[e.i]
 | .alt e _ r=>e.i::r.heads
def chkW(ops:Array Oper):Bool→ET→Array Bool→Bool
 |top,.nil,listed=>top && (Region.ready .any ops listed).isEmpty
 |top,.op e s,listed=>(if e.q then top && (Region.ready .any ops listed).contains e.i && Region.free .any ops listed e.i && okD .any ops e.i e.al && e.al.all (fun m=>!listed.getD m false) && e.dn.all e.al.contains && !e.dn.contains e.i && s.allE (fun e'=>!e'.q ||!e.dn.contains e'.i) else !top ||Region.ready .any ops listed ==[e.i]) && chkW ops true s (listed.setIfInBounds e.i true)
 |top,.alt e s r,listed=>(!top ||Region.ready .any ops listed ==e.i::r.heads) && !e.q && s.len+1 ==r.len && chkW ops true s (listed.setIfInBounds e.i true) && chkW ops false r listed
def Dv(P:Program)(N:Nat)(ops:Array Oper)(Kn:Fm→World→Prop):List (List Nat×(World→Prop))→ET→Array Bool→Fm→World→Prop
 |_,.nil,_,f,w=>Kn f w
 |Cl,.op e s,l,f,w=>if e.q then
   ∃o v f' V,ops[e.i]?=some o∧YieldsIf P ops V o v (fr f N)∧(fr f N).put o.dst v=fr f' N∧V w∧Dv P N ops Kn ((e.dn,V)::Cl) s (l.setIfInBounds e.i true) f' w
  else wpOp P ops (pst N Kn (fun _ _ _=>False) (fun _ _=>False)) e.i (fun a' w'=>Cons Cl (l.setIfInBounds e.i true) w'∧∃f',a'=fr f' N∧Dv P N ops Kn Cl s (l.setIfInBounds e.i true) f' w') (fr f N) w
 |Cl,.alt e s r,l,f,w=>wpOp P ops (pst N Kn (fun _ _ _=>False) (fun _ _=>False)) e.i (fun a' w'=>Cons Cl (l.setIfInBounds e.i true) w'∧∃f',a'=fr f' N∧Dv P N ops Kn Cl s (l.setIfInBounds e.i true) f' w') (fr f N) w∧Dv P N ops Kn Cl r l f w
theorem dv_both(hs:Region.noSelect ops=true):∀(s:ET) (Cl:List (List Nat×(World→Prop))) (listed:Array Bool) (f:Fm) (w:World) (top:Bool),chkW ops top s listed=true→(∀p∈Cl,s.allE (fun e=>!e.q ||!p.1.contains e.i)=true)→Cons Cl listed w→Dv P N ops Kn Cl s listed f w→
  (top=true→wpAnyW P .any ops (pst N Kn (fun _ _ _=>False) (fun _ _=>False)) Cl s.len listed (fr f N) w)∧
  (top=false→∀j∈s.heads,∃n,s.len=n+1∧wpOp P ops (pst N Kn (fun _ _ _=>False) (fun _ _=>False)) j (fun a' w'=>Cons Cl (listed.setIfInBounds j true) w'∧wpAnyW P .any ops (pst N Kn (fun _ _ _=>False) (fun _ _=>False)) Cl n (listed.setIfInBounds j true) a' w') (fr f N) w)
 | .nil,Cl,listed,f,w,top,hc,_,_,h=>by
  simp only[chkW,Bool.and_eq_true]at hc;refine⟨fun _=>?_,fun ht=>(by rw[ht]at hc;cases hc.1)⟩;have hr:Region.ready .any ops listed=[]:=by simpa using hc.2
  exact⟨hr,f,rfl,h⟩
 | .op e s,Cl,listed,f,w,top,hc,hq,hC,h=>by
  simp only[chkW,Bool.and_eq_true]at hc;obtain⟨hc1,hc2⟩:=hc;have hq1:∀p∈Cl,(!e.q ||!p.1.contains e.i)=true∧s.allE (fun e=>!e.q ||!p.1.contains e.i)=true:=fun p hp=>by
   have:=hq p hp
   simpa only [ET.allE,Bool.and_eq_true] using this
  simp only[Dv]at h;cases heq:e.q with
  |true=>
   rw[heq]at h hc1;simp only[if_true,Bool.and_eq_true,Bool.not_eq_true']at h hc1;obtain⟨⟨⟨⟨⟨⟨⟨ht,hr⟩,k1⟩,k2⟩,k3⟩,k4⟩,k5⟩,k6⟩:=hc1;refine⟨fun _=>?_,fun ht'=>(by rw[ht]at ht';cases ht')⟩;obtain⟨o,v,f',V,ho,hy,hp,hV,hd⟩:=h;have hdn:∀m∈e.dn,m∈e.al:=fun m hm=>by simpa using List.all_eq_true.1 k4 m hm
   have hnal:noD e.al listed:=fun m hm=>by simpa using List.all_eq_true.1 k3 m hm
   refine takeW ho (Region.noSelect_spec hs) (fun c a w hq=>hq.elim) k2 hdn (by simpa using k5) (fun p hp'=>by have:=(hq1 p hp').1;simpa [heq] using this) s.len listed (fr f N) w (Region.free_spec ho k1) (by simpa using hr) hnal hy hV hC ?_;rw[hp];refine (dv_both hs s _ _ f' w true hc2 (fun p hp'=>?_) (fun p hp' hn=>?_) hd).1 rfl
   ·rcases List.mem_cons.1 hp' with rfl|hp'
    ·exact k6
    ·exact (hq1 p hp').2
   ·rcases List.mem_cons.1 hp' with rfl|hp'
    ·exact hV
    ·exact (hC.set e.i) p hp' hn
  |false=>
   rw[heq]at h hc1;simp only[Bool.false_eq_true,if_false,Bool.or_eq_true,Bool.not_eq_true',beq_iff_eq]at h hc1;have step:wpOp P ops (pst N Kn (fun _ _ _=>False) (fun _ _=>False)) e.i (fun a' w'=>Cons Cl (listed.setIfInBounds e.i true) w'∧wpAnyW P .any ops (pst N Kn (fun _ _ _=>False) (fun _ _=>False)) Cl s.len (listed.setIfInBounds e.i true) a' w') (fr f N) w:=by
    refine wpOp_mono ?_ h
    rintro a' w' ⟨hC',f',rfl,hd⟩
    exact⟨hC',(dv_both hs s Cl _ f' w' true hc2 (fun p hp=>(hq1 p hp).2) hC' hd).1 rfl⟩
   refine⟨fun ht=>⟨fun h0=>?_,fun j hj=>?_⟩,fun _ j hj=>?_⟩
   ·rcases hc1 with h1|h1
    ·rw[ht]at h1;cases h1
    ·rw[h1]at h0;cases h0
   ·rcases hc1 with h1|h1
    ·rw[ht]at h1;cases h1
    ·rw[h1]at hj;simp only[List.mem_singleton]at hj;subst hj;exact step
   ·simp only[ET.heads,List.mem_singleton]at hj;subst hj;exact⟨s.len,rfl,step⟩
 | .alt e s r,Cl,listed,f,w,top,hc,hq,hC,h=>by
  simp only[chkW,Bool.and_eq_true,Bool.or_eq_true,Bool.not_eq_true',beq_iff_eq]at hc;obtain⟨⟨⟨⟨hc1,hc2⟩,hc3⟩,hc4⟩,hc5⟩:=hc;have hq1:∀p∈Cl,s.allE (fun e=>!e.q ||!p.1.contains e.i)=true∧r.allE (fun e=>!e.q ||!p.1.contains e.i)=true:=fun p hp=>by
   have:=hq p hp;simp only[ET.allE,Bool.and_eq_true]at this;exact⟨this.1.2,this.2⟩
  simp only[Dv]at h;have all:∀j∈e.i::r.heads,wpOp P ops (pst N Kn (fun _ _ _=>False) (fun _ _=>False)) j (fun a' w'=>Cons Cl (listed.setIfInBounds j true) w'∧wpAnyW P .any ops (pst N Kn (fun _ _ _=>False) (fun _ _=>False)) Cl s.len (listed.setIfInBounds j true) a' w') (fr f N) w:=by
   intro j hj;rcases List.mem_cons.1 hj with rfl|hj
   ·refine wpOp_mono ?_ h.1
    rintro a' w' ⟨hC',f',rfl,hd⟩
    exact⟨hC',(dv_both hs s Cl _ f' w' true hc4 (fun p hp=>(hq1 p hp).1) hC' hd).1 rfl⟩
   ·obtain⟨n,hn,hw⟩:=(dv_both hs r Cl listed f w false hc5 (fun p hp=>(hq1 p hp).2) hC h.2).2 rfl j hj;have:n=s.len:=by omega
    subst this;exact hw
  refine⟨fun ht=>⟨fun h0=>?_,fun j hj=>?_⟩,fun _ j hj=>⟨s.len,rfl,all j hj⟩⟩
  ·rcases hc1 with h1|h1
   ·rw[ht]at h1;cases h1
   ·rw[h1]at h0;cases h0
  ·rcases hc1 with h1|h1
   ·rw[ht]at h1;cases h1
   ·rw[h1]at hj;exact all j hj
theorem w_drawn{id:Nat}{l:List Oper}(s:ET)(hm:P.follows .mixedOrders=true)(hs:Region.noSelect l.toArray=true)(hn:s.len=l.toArray.size)
  (hc:chkW l.toArray true s (Array.replicate l.toArray.size false)=true) (h:Dv P N l.toArray Kn [] s (Array.replicate l.toArray.size false) f w.drew):W P N (.region id l.toArray true) Kn Ke Kr f w:=by
 have h1:=(dv_both hs s [] _ f w.drew true hc (fun p hp=>by simp at hp) (fun p hp=>by simp at hp) h).1 rfl;rw[hn]at h1;unfold W;refine wp_mono (wp_region_any hm (wpAny_of_W _ _ _ _ h1)) ?_;intro e a w hq;cases e with
 |normal=>exact hq
 |exit id=>obtain⟨_,_,h⟩:=hq;exact h.elim
 |ret=>obtain⟨_,_,h⟩:=hq;exact h.elim
 |goto l=>exact hq.elim
 |panic c=>exact hq.elim
 |outgrown=>exact hq.elim
variable {Cl:List (List Nat×(World→Prop))} {s:ET} {e:Ent} {lst:Array Bool} {o:Oper}
theorem v_nil(h:Kn f w):Dv P N ops Kn Cl .nil lst f w:=h
theorem v_op(hq:e.q=false)(hi:ops[e.i]?=some o)(hg:Wants N ops f o.guard)(h:Op1 P N o f w (fun f' w'=>Cons Cl (lst.setIfInBounds e.i true) w'∧Dv P N ops Kn Cl s (lst.setIfInBounds e.i true) f' w')):Dv P N ops Kn Cl (.op e s) lst f w:=by
 simp only[Dv,hq,Bool.false_eq_true,if_false,wpOp,hi];rw[if_pos (show Region.wanted o _=true from hg)];exact .inl (h.toWp fun f' w' hk=>⟨hk.1,f',rfl,hk.2⟩)
theorem v_alt{t:ET}(hi:ops[e.i]?=some o)(hg:Wants N ops f o.guard)(h:Op1 P N o f w (fun f' w'=>Cons Cl (lst.setIfInBounds e.i true) w'∧Dv P N ops Kn Cl s (lst.setIfInBounds e.i true) f' w'))(h2:Dv P N ops Kn Cl t lst f w):Dv P N ops Kn Cl (.alt e s t) lst f w:=by
 refine⟨?_,h2⟩;simp only[wpOp,hi];rw[if_pos (show Region.wanted o _=true from hg)];exact .inl (h.toWp fun f' w' hk=>⟨hk.1,f',rfl,hk.2⟩)
theorem v_q(hq:e.q=true)(hi:ops[e.i]?=some o){d:Nat}(hd:o.dst=some d)(hg:Wants N ops f o.guard){v:Value}(V:World→Prop)(hr:∀w,V w→(execOp (fr f N).eval o).run P w=.ok (.value v) w)(hV:V w)
  (h:Dv P N ops Kn ((e.dn,V)::Cl) s (lst.setIfInBounds e.i true) (upd f d v) w):Dv P N ops Kn Cl (.op e s) lst f w:=by
 simp only[Dv,hq,if_true];refine⟨_,v,_,V,hi,.inl ⟨hg,hr⟩,?_,hV,h⟩;rw[hd];exact fr_put f N d v
variable {d:Nat} {op:Op} {ty:TypeId} {pos:String} {aft:Array Edge} {gd:Option (Nat×Bool)}
theorem v_pass(hq:e.q=true)(hi:ops[e.i]?=some ⟨some d,op,ty,pos,aft,gd⟩)(hg:Wantsnt N ops f gd)
  (h:Dv P N ops Kn ((e.dn,fun _=>True)::Cl) s (lst.setIfInBounds e.i true) (upd f d undef) w):Dv P N ops Kn Cl (.op e s) lst f w:=by
 simp only[Dv,hq,if_true];exact⟨_,undef,_,fun _=>True,hi,.inr ⟨hg,rfl⟩,fr_put f N d _,trivial,h⟩
theorem v_passn(hq:e.q=false)(hi:ops[e.i]?=some ⟨some d,op,ty,pos,aft,gd⟩)(hg:Wantsnt N ops f gd)(hC:Cons Cl (lst.setIfInBounds e.i true) w)
  (h:Dv P N ops Kn Cl s (lst.setIfInBounds e.i true) (upd f d undef) w):Dv P N ops Kn Cl (.op e s) lst f w:=by
 simp only[Dv,hq,Bool.false_eq_true,if_false,wpOp,hi];rw[if_neg (hg.to _ _ _ _ _)];exact⟨hC,_,fr_put f N d _,h⟩
theorem v_altn{t:ET}(hi:ops[e.i]?=some ⟨some d,op,ty,pos,aft,gd⟩)(hg:Wantsnt N ops f gd)(hC:Cons Cl (lst.setIfInBounds e.i true) w)
  (h:Dv P N ops Kn Cl s (lst.setIfInBounds e.i true) (upd f d undef) w) (h2:Dv P N ops Kn Cl t lst f w):Dv P N ops Kn Cl (.alt e s t) lst f w:=by
 refine⟨?_,h2⟩;simp only[wpOp,hi];rw[if_neg (hg.to _ _ _ _ _)];exact⟨hC,_,fr_put f N d _,h⟩
end
end
section
open Go.RowKit
section
variable (P:Program) (N:Nat) (num:Nat→FuncId)
def elemB(T:TypeId):Option (TypeId×TypeInfo×Value):=
 match P.underlying T with
 |some (.slice E)=>match P.info? E with
  |some i=>match i.zero with
   |some z=>some (E,i,z)
   |none=>none
  |none=>none
 |_=>none
def okCallee(F:FuncId):Bool:=
 match P.funcs[F]? with
 |some fn=>fn.body.isSome && !(fn.name == "runtime.NumGoroutine")
 |none=>false
def okN:Op→Option Tmp→KO→Bool
 | .alloc T,some _,.alloc zs=>(match zeroB P T with
   |some z=>okZs z zs
   |none=>false)
 | .box _ x,some _,.box y=>okX N x y
 | .buildSlice T n ps,some _,.mkrow k _ ys=>(match P.underlying T with
   |some (.slice E)=>sizeB P E ==some k && (n ==0 ||(zeroB P E).isSome) && okSeq N 0 ps.toList ys && n ==ps.size && Nat.ble (n * k) 16777216
   |_=>false)
 | .makeSlice T a b,some _,.make k by_ fl zs y=>okX N a y && okX N b y && (match elemB P T with
   |some (_,i,z)=>i.size ==k && i.bytes ==by_ && Nat.blt 0 k && okZDs z.cells.toList zs && zs.length ==k && (!fl ||plains zs)
   |none=>false)
 | .store T x v,none,.st n a b=>sizeB P T ==some n && okX N x a && okX N v b
 | .call c,some _,.app k by_ _ a b=>(match c.callee,c.args.toList,c.argTypes.toList with
   | .builtin .append,[x,y],[T,T']=>T ==T' && okX N x a && okX N y b && (match elemB P T with
    |some (_,i,z)=>i.size ==k && i.bytes ==by_ && z.cells.size ==k && Nat.blt 0 k
    |none=>false)
   |_,_,_=>false)
 | .call c,_,.call g xs=>(match c.callee with
   | .value (.func F)=>F ==num g && okCallee P F && okXs N c.args.toList xs
   |_=>false)
 | .call c,some _,.mrk g y y2=>(match c.callee,c.args.toList with
   | .value (.func F),[x,x2]=>F ==num g && okCallee P F && okX N x y && okX N x2 y2
   |_,_=>false)
 | .assign x,some _,.mvr y=>okX N x y
 | .move x,some _,.mvr y=>okX N x y
 | .call c,some _,.jn a b=>(match c.callee,c.args.toList with
   | .value (.func F),[x,y]=>F ==num 9004 && !(num 9004 ==1000000) && okCallee P F && okX N x a && okX N y b
   |_,_=>false)
 | .call c,some _,.cpy k a b=>(match c.callee,c.args.toList,c.argTypes.toList with
   | .builtin .copy,[x,y],[T,_]=>okX N x a && okX N y b && (match P.underlying T with
    |some (.slice E)=>sizeB P E ==some k
    |_=>false)
   |_,_,_=>false)
 | .slice T x lo hi none,some _,.cut k y b c=>(match P.underlying T with
   |some (.slice E)=>sizeB P E ==some k && okX N x y && okOX N lo b && okOX N hi c
   |_=>false)
 |_,_,_=>false
def okG(ops:Array Oper):Option (Nat×Bool)→Option (Nat×Bool)→Bool
 |none,none=>true
 |some (j,want),some (g,want')=>want ==want' && (match ops[j]? with
   |some o=>o.dst ==some g && Nat.blt g N
   |none=>false)
 |_,_=>false
def okI(ops:Array Oper)(o:Oper)(i:KI):Bool:=
 o.dst ==i.dst && (match i.dst with
  |some d=>Nat.blt d N && Nat.blt d 900
  |none=>true) && okG N ops o.guard i.gd && (if i.op.pure_ then i.dst.isSome && okP P N o.op i.op else okN P N num o.op i.dst i.op)
def okOs(ops:Array Oper):List Oper→List KI→Bool
 |[],[]=>true
 |o::os,i::is=>okI P N num ops o i && okOs ops os is
 |_,_=>false
def KD.ent(x:KD):Ent:=⟨x.j,x.q,x.al,x.dn⟩
def KT.ent:KT→ET
 | .nil=>.nil
 | .op x t=>.op x.ent t.ent
 | .alt x t r=>.alt x.ent t.ent r.ent
def okDs(ops:Array Oper):KT→Bool
 | .nil=>true
 | .op ⟨j,q,_,_,i⟩ is=>(match ops[j]? with
   |some o=>okI P N num ops o i && (!q ||i.op.pure_) && (i.gd.isNone ||i.dst.isSome)
   |none=>false) && okDs ops is
 | .alt ⟨j,q,_,_,i⟩ is r=>(match ops[j]? with
   |some o=>okI P N num ops o i && !q && (i.gd.isNone ||i.dst.isSome)
   |none=>false) && okDs ops is && okDs ops r
def okC:K→Code→Bool
 | .skip,.skip=>true
 | .reg is _,.region _ ops false=>okOs P N num ops ops.toList is
 | .drw is _,.region _ ops true=>okDs P N num ops is && Region.noSelect ops && is.ent.len ==ops.size && chkW ops true is.ent (Array.replicate ops.size false)
 | .seq a b,.seq c d=>okC a c && okC b d
 | .cond x a b,.cond y c d=>okX N y x && okC a c && okC b d
 | .block i a,.block j c=>i ==j && okC a c
 | .loop a,.loop c=>okC a c
 | .exit i,.exit j=>i ==j
 | .ret,.ret=>true
 | .share _ a,c=>okC a c
 | .dat _ a,c=>okC a c
 |_,_=>false
end
theorem elem_run{P:Program}{T:TypeId}{E:TypeId}{i:TypeInfo}{z:Value}(h:elemB P T=some (E,i,z)):P.underlying T=some (.slice E)∧P.info? E=some i∧i.zero=some z:=by
 unfold elemB at h
 split at h
 ·rename_i E' hu
  split at h
  ·rename_i i' hi
   split at h
   ·rename_i z' hz;simp only[Option.some.injEq,Prod.mk.injEq]at h;obtain⟨rfl,rfl,rfl⟩:=h;exact⟨hu,hi,hz⟩
   ·cases h
  ·cases h
 ·cases h
section
variable {P:Program} {γ:Gh} {h0:Nat→Nat} {io:List Nat} {w0:World} {s s':St} {f:Fm} {w:World} {N:Nat} {num:Nat→FuncId} {K':Fm→World→Prop}
 {cf:Nat→List A→Option (List A×List A)} {mf:Nat→Bool→List D→Int→Option (List D×Int)}
theorem noisy_sound(hcf:Cts w0 io P num cf)(hmf:∀g ag ds q ds' q',mf g ag ds q=some (ds',q')→MarkAt w0 io P (num g) ag ds q ds' q')(hi:Inv γ h0 io w0 s f w){op:Op}{dst:Option Tmp}{kop:KO}{ty:TypeId}{pos:String}{aft:Array Edge}{gd:Option (Nat×Bool)}(hok:okN P N num op dst kop=true)(he:evN cf mf s dst kop=some s')
  (h:∀γ' f' w',Inv γ' h0 io w0 s' f' w'→Tr dst (touch s dst kop) γ w γ' w' f f'→K' f' w'):Op1 P N ⟨dst,op,ty,pos,aft,gd⟩ f w K':=by
 unfold okN at hok
 split at hok
 ·split at hok
  ·rename_i z hz;exact n_alloc hi hz hok he (by simpa only [touch,Option.toList] using h)
  ·cases hok
 ·exact n_box hi hok he (by simpa only [touch,Option.toList] using h)
 ·split at hok
  ·rename_i E hU;simp only[Bool.and_eq_true,Bool.or_eq_true,beq_iff_eq]at hok;obtain⟨⟨⟨⟨h1,h2⟩,h3⟩,h4⟩,h5⟩:=hok;exact n_mkrow hi hU h1 h2 h3 h4 h5 he (by simpa only [touch,Option.toList,List.singleton_append] using h)
  ·cases hok
 ·simp only[Bool.and_eq_true]at hok;obtain⟨⟨h1,h2⟩,h3⟩:=hok
  split at h3
  ·rename_i E i z hel;obtain⟨hU,hI,hz⟩:=elem_run hel;simp only[Bool.and_eq_true,beq_iff_eq,Nat.blt_eq,Bool.or_eq_true,Bool.not_eq_true']at h3;obtain⟨⟨⟨⟨⟨k1,k2⟩,k3⟩,k4⟩,k5⟩,k6⟩:=h3;exact n_make hi hU hI hz k1 k2 k3 k4 k5 (fun hf=>by rcases k6 with h|h<;>simp_all) h1 h2 he (by simpa only [touch,Option.toList] using h)
  ·cases h3
 ·simp only[Bool.and_eq_true,beq_iff_eq]at hok;obtain⟨⟨h1,h2⟩,h3⟩:=hok;exact n_st hi h1 h2 h3 he h
 ·rename_i c d k by_ fl a b
  split at hok
  ·rename_i x y T T' hc1 hc2 hc3;simp only[Bool.and_eq_true,beq_iff_eq]at hok;obtain⟨⟨⟨rfl,h1⟩,h2⟩,h3⟩:=hok;obtain⟨cal,args,ats⟩:=c;simp only at hc1 hc2 hc3
   subst hc1;have ea:args=#[x,y]:=by rw[← hc2]
   have et:ats=#[T,T]:=by rw[← hc3]
   subst ea et
   split at h3
   ·rename_i E i z hel;obtain⟨hU,hI,hz⟩:=elem_run hel;simp only[Bool.and_eq_true,beq_iff_eq,Nat.blt_eq]at h3;obtain⟨⟨⟨k1,k2⟩,k3⟩,k4⟩:=h3;exact n_app hi hU hI hz k1 k2 k3 k4 h1 h2 he h
   ·cases h3
  ·cases hok
 ·rename_i c g xs
  split at hok
  ·rename_i F hc1;simp only[Bool.and_eq_true,beq_iff_eq]at hok;obtain⟨⟨rfl,h1⟩,h2⟩:=hok;obtain⟨cal,args,ats⟩:=c;simp only at hc1
   subst hc1;unfold okCallee at h1
   split at h1
   ·rename_i fn hfn;simp only[Bool.and_eq_true,Bool.not_eq_true']at h1;exact n_call hi hfn h1.1 h1.2 h2 (hcf.1 g) he h
   ·cases h1
  ·cases hok
 ·rename_i c d g y y2
  split at hok
  ·rename_i F x x2 hc1 hc2;simp only[Bool.and_eq_true,beq_iff_eq]at hok;obtain⟨⟨⟨rfl,h1⟩,h2⟩,h3⟩:=hok;obtain⟨cal,args,ats⟩:=c;simp only at hc1 hc2
   subst hc1;have ea:args=#[x,x2]:=by rw[← hc2]
   subst ea;unfold okCallee at h1
   split at h1
   ·rename_i fn hfn;simp only[Bool.and_eq_true,Bool.not_eq_true']at h1;exact n_mark hi hfn h1.1 h1.2 h2 h3 (hmf g) he h
   ·cases h1
  ·cases hok
 ·exact n_mvr hi (.inl rfl) hok he h
 ·exact n_mvr hi (.inr rfl) hok he h
 ·rename_i c d a b
  split at hok
  ·rename_i F x y hc1 hc2;simp only[Bool.and_eq_true,beq_iff_eq,Bool.not_eq_true',beq_eq_false_iff_ne]at hok;obtain⟨⟨⟨⟨rfl,hn⟩,h1⟩,h2⟩,h3⟩:=hok;obtain⟨cal,args,ats⟩:=c;simp only at hc1 hc2
   subst hc1;have ea:args=#[x,y]:=by rw[← hc2]
   subst ea;unfold okCallee at h1
   split at h1
   ·rename_i fn hfn;simp only[Bool.and_eq_true,Bool.not_eq_true']at h1;exact n_jn hi hfn h1.1 h1.2 (hcf.2 hn) h2 h3 he h
   ·cases h1
  ·cases hok
 ·rename_i c d k a b
  split at hok
  ·rename_i x y T T' hc1 hc2 hc3;simp only[Bool.and_eq_true]at hok;obtain⟨⟨h1,h2⟩,h3⟩:=hok;obtain⟨cal,args,ats⟩:=c;simp only at hc1 hc2 hc3
   subst hc1;have ea:args=#[x,y]:=by rw[← hc2]
   have et:ats=#[T,T']:=by rw[← hc3]
   subst ea et
   split at h3
   ·rename_i E hU;simp only[beq_iff_eq]at h3;exact n_cpy hi hU h3 h1 h2 he h
   ·cases h3
  ·cases hok
 ·split at hok
  ·rename_i E hU;simp only[Bool.and_eq_true,beq_iff_eq]at hok;obtain⟨⟨⟨h1,h2⟩,h3⟩,h4⟩:=hok;exact n_cut hi hU h1 h2 h3 h4 he h
  ·cases hok
 ·cases hok
theorem guard_cases{ops:Array Oper}(hi:Inv γ h0 io w0 s f w){j g:Nat}{want:Bool}(hok:okG N ops (some (j,want)) (some (g,want))=true):(∀b,s.get g=.d (.bool b)→b=want→Wants N ops f (some (j,want)))∧(∀b,s.get g=.d (.bool b)→b≠want→Wantsnt N ops f (some (j,want)))∧(s.get g=.und→Wantsnt N ops f (some (j,want))):=by
 simp only[okG,Bool.and_eq_true]at hok;obtain⟨_,hok⟩:=hok
 split at hok
 ·rename_i o ho;simp only[Bool.and_eq_true,beq_iff_eq]at hok;have hj:(ops[j]?).bind (·.dst)=some g:=by rw[ho];exact hok.1
  have hg:=hi.get g;refine⟨fun b hb hw=>?_,fun b hb hw=>?_,fun hu=>?_⟩
  ·rw[hb]at hg;have hv:=cr_bool hg;subst hw;exact wy hv hj hok.2
  ·rw[hb]at hg;have hv:=cr_bool hg;have:b=!want:=by cases b<;>cases want<;>simp_all
   rw[this]at hv;exact wx hv hj hok.2
  ·rw[hu]at hg;simp only[CR]at hg;exact wu hg hj hok.2
 ·cases hok
def InvC(β0:Nat→Nat)(h0:Nat→Nat)(io:List Nat)(w0:World)(s:St)(f:Fm)(w:World):Prop:=∃γ,Inv γ h0 io w0 s f w∧∀b,900≤b→γ.β b=β0 b
variable {β0:Nat→Nat}
theorem InvC.keep(h:InvC β0 h0 io w0 s f w)(kp:Keep):InvC β0 h0 io w0 (s.keep kp) f w:=by
 obtain⟨γ,hi,hb⟩:=h;exact⟨γ,hi.sub (fun d c hl=>look_keep _ _ d c hl) (fun d c hl=>look_keep _ _ d c hl) (fun d c hl=>look_keep _ _ d c hl),hb⟩
theorem evO_split{d:Option Nat}{o:KO}(he:evO cf mf s d o=some s'):(o.pure_=true∧∃c,evP s o=some c∧s'=s.put d c)∨(o.pure_=false∧evN cf mf s d o=some s'):=by
 unfold evO at he
 split at he
 ·rename_i hp;simp only[Option.map_eq_some_iff]at he;obtain⟨c,h1,h2⟩:=he;exact .inl ⟨hp,c,h1,h2.symm⟩
 ·rename_i hp;exact .inr ⟨by simpa using hp,he⟩
theorem ops_sound(hcf:Cts w0 io P num cf)(hmf:∀g ag ds q ds' q',mf g ag ds q=some (ds',q')→MarkAt w0 io P (num g) ag ds q ds' q'){ops:Array Oper}{Kn:Fm→World→Prop}:∀(os:List Oper) (is:List KI) {s s':St} {f:Fm} {w:World},okOs P N num ops os is=true→evOps cf mf is s=some s'→InvC β0 h0 io w0 s f w→(∀f' w',InvC β0 h0 io w0 s' f' w'→Kn f' w')→Ls P N ops Kn os f w
 |[],[],s,s',f,w,_,he,hi,hk=>by
  simp only[evOps,Option.some.injEq]at he;subst he;exact l_nil (hk f w hi)
 |[],_::_,_,_,_,_,h,_,_,_=>by simp[okOs]at h
 |_::_,[],_,_,_,_,h,_,_,_=>by simp[okOs]at h
 |⟨dst,op,ty,pos,aft,gd⟩::os,⟨d,kop,kgd⟩::is,s,s',f,w,h,he,⟨γ,hi,hb⟩,hk=>by
  simp only[okOs,Bool.and_eq_true,okI,beq_iff_eq]at h;obtain⟨⟨⟨⟨rfl,hd⟩,hg⟩,hop⟩,hrest⟩:=h;simp only[evOps]at he
  split at he
  ·rename_i s1 h1;have go:Wants N ops f gd→evO cf mf s dst kop=some s1→Ls P N ops Kn (⟨dst,op,ty,pos,aft,gd⟩::os) f w:=by
    intro hw h1;refine l_op hw ?_;rcases evO_split h1 with ⟨hp,c,hc,rfl⟩|⟨hp,hn⟩
    ·simp only[hp,if_true,Bool.and_eq_true]at hop;obtain⟨d,rfl⟩:=Option.isSome_iff_exists.1 hop.1;obtain⟨v,k1,k2⟩:=pure_sound (dst:=some d) (ty:=ty) (pos:=pos) (aft:=aft) (gd:=gd) hi hop.2 hc;exact o_val (k2 w (fun _=>Sames.refl _ _ _)) (ops_sound hcf hmf os is hrest he ⟨γ,hi.put d c v k1,hb⟩ hk)
    ·simp only[hp,Bool.false_eq_true,if_false]at hop;refine noisy_sound hcf hmf hi hop hn fun γ' f' w' i' tr=>ops_sound hcf hmf os is hrest he ⟨γ',i',fun b hb'=>?_⟩ hk;rw[tr.β b (fun e=>by
      rw[e]at hd;simp at hd;omega)]
     exact hb b hb'
   have skip:Wantsnt N ops f gd→s1=s.put dst .und→Ls P N ops Kn (⟨dst,op,ty,pos,aft,gd⟩::os) f w:=by
    intro hw e;subst e;cases dst with
    |none=>exact l_pass0 hw (ops_sound hcf hmf os is hrest he ⟨γ,hi,hb⟩ hk)
    |some d=>exact l_pass hw (ops_sound hcf hmf os is hrest he ⟨γ,hi.put d .und undef (by simp only[CR]),hb⟩ hk)
   simp only[evI]at h1;cases kgd with
   |none=>
    cases gd with
    |none=>exact go wn h1
    |some x=>simp[okG]at hg
   |some x=>
    obtain⟨g,want⟩:=x;cases gd with
    |none=>simp[okG]at hg
    |some y=>
     obtain⟨j,want'⟩:=y;have hww:want'=want:=by simp[okG]at hg;exact hg.1
     subst hww;obtain⟨g1,g2,g3⟩:=guard_cases hi hg;simp only at h1
     split at h1
     ·rename_i b hgb
      split at h1
      ·rename_i hbw;exact go (g1 b hgb hbw) h1
      ·rename_i hbw;simp only[Option.some.injEq]at h1;exact skip (g2 b hgb hbw) h1.symm
     ·rename_i hgu;simp only[Option.some.injEq]at h1;exact skip (g3 hgu) h1.symm
     ·cases h1
  ·cases he
theorem Inv.drew(hi:Inv γ h0 io w0 s f w):Inv γ h0 io w0 s f w.drew:=
 hi.adv (M:=fun _=>False) ⟨rfl,rfl,rfl,Nat.le_refl _,fun _ _ _=>rfl,fun _ _ _=>rfl,fun _ h=>h⟩ (fun h=>h) (fun _ h=>h.elim) (fun _ h=>h.elim)
def Sq(γ0:Gh)(qb:Option Nat)(wst w':World):Prop:=(∀g j,j < γ0.h g→w'.cell? ⟨g,j,none⟩=wst.cell? ⟨g,j,none⟩)∧∀b,qb=some b→w'.heap[γ0.β b]?=wst.heap[γ0.β b]?
def St.only(s:St)(qb:Option Nat):St:=⟨s.sl,keepL s.bx qb.toList,[]⟩
theorem evP_only{kop:KO}{c:C}{qb:Option Nat}(hld:kop.isLd=true)(hb:ldBox s kop=some qb)(hc:evP s kop=some c):evP (s.only qb) kop=some c:=by
 cases kop<;>simp[KO.isLd]at hld
 rotate_left
 ·simp[ldBox]at hb
 rename_i n x;have hx:evX (s.only qb) x=evX s x:=by cases x<;>rfl
 simp only[ldBox]at hb;simp only[evP,hx]at hc ⊢
 split at hb
 ·rename_i b o he;cases hb;rw[he]at hc ⊢;simp only at hc ⊢
  have:look (s.only (some b)).bx b=look s.bx b:=by
   simp only[St.only,Option.toList,keepL];cases h:look s.bx b<;>simp[look]
  rw[this];exact hc
 ·rename_i cs he;rw[he]at hc ⊢;exact hc
 ·cases hb
theorem look_only{qb:Option Nat}{b:Nat}{cs:List C}(h:look (s.only qb).bx b=some cs):qb=some b∧look s.bx b=some cs:=by
 cases qb with
 |none=>simp[St.only,keepL,look]at h
 |some b'=>
  simp only[St.only,Option.toList,keepL]at h;cases h':look s.bx b' with
  |none=>rw[h']at h;simp[look]at h
  |some cs'=>
   rw[h']at h;simp only[look]at h
   split at h
   ·rename_i he;subst he;exact⟨rfl,by rw[h'];exact h⟩
   ·cases h
def Tk(Cl:List (List Nat×(World→Prop)))(tk:List (List Nat×Nat))(lst:Array Bool)(γ:Gh)(s:St)(w:World):Prop:=
 ∀p∈Cl,(∃m∈p.1,lst.getD m false=true)∨∃γ0 wst qb,(∀w',Sq γ0 qb wst w'→p.2 w')∧Sq γ0 qb wst w∧(∀g,γ0.h g≤γ.h g)∧∀b,qb=some b→γ.β b=γ0.β b∧(look s.bx b).isSome=true∧(p.1,b)∈tk
theorem Tk.cons{Cl:List (List Nat×(World→Prop))}{tk:List (List Nat×Nat)}{lst:Array Bool}(h:Tk Cl tk lst γ s w):Cons Cl lst w:=by
 intro p hp hn;rcases h p hp with ⟨m,hm,e⟩|⟨γ0,wst,qb,h1,h2,_⟩
 ·rw[hn m hm]at e;cases e
 ·exact h1 w h2
theorem Tk.quiet{Cl:List (List Nat×(World→Prop))}{tk:List (List Nat×Nat)}{lst:Array Bool}(h:Tk Cl tk lst γ s w)(i:Nat)(dn:List Nat)(qb:Option Nat)(d:Option Nat)(c:C)(V:World→Prop)(hV:∀w',Sq γ qb w w'→V w')(hl:∀b,qb=some b→(look s.bx b).isSome=true) :
  Tk ((dn,V)::Cl) (tkAdd dn tk qb) (lst.setIfInBounds i true) γ (s.put d c) w:=by
 have ebx:(s.put d c).bx=s.bx:=by cases d<;>rfl
 intro p hp;rw[ebx];rcases List.mem_cons.1 hp with rfl|hp
 ·refine .inr ⟨γ,w,qb,hV,⟨fun _ _ _=>rfl,fun _ _=>rfl⟩,fun _=>Nat.le_refl _,fun b hb=>⟨rfl,hl b hb,?_⟩⟩;subst hb;simp[tkAdd]
 ·rcases h p hp with ⟨m,hm,e⟩|⟨γ0,wst,qb',h1,h2,h3,h4⟩
  ·exact .inl ⟨m,hm,getD_set_true e⟩
  ·refine .inr ⟨γ0,wst,qb',h1,h2,h3,fun b hb=>⟨(h4 b hb).1,(h4 b hb).2.1,?_⟩⟩;have:=(h4 b hb).2.2;cases qb<;>simp[tkAdd,this]
theorem Tk.noisy{Cl:List (List Nat×(World→Prop))}{tk:List (List Nat×Nat)}{lst:Array Bool}(h:Tk Cl tk lst γ s w){j:Nat}(hj:j < lst.size)(hi:Inv γ h0 io w0 s f w){γ':Gh}{w':World}{f':Fm}{s1:St}{dst:Option Nat}{X:List Nat}(tr:Tr dst X γ w γ' w' f f')
  (hall:∀p∈tkCut j tk,(p.2∉X∧(look s1.bx p.2).isSome=true)∧¬dst=some p.2):Tk Cl (tkCut j tk) (lst.setIfInBounds j true) γ' s1 w':=by
 intro p hp;rcases h p hp with ⟨m,hm,e⟩|⟨γ0,wst,qb,h1,h2,h3,h4⟩
 ·exact .inl ⟨m,hm,getD_set_true e⟩
 ·by_cases hjp:j∈p.1
  ·refine .inl ⟨j,hjp,?_⟩;simp[Array.getD,hj]
  ·have hin:∀b,qb=some b→(p.1,b)∈tkCut j tk:=fun b hb=>by
    simp only[tkCut,List.mem_filter];exact⟨(h4 b hb).2.2,by simpa using hjp⟩
   refine .inr ⟨γ0,wst,qb,h1,⟨fun g j' hj'=>(tr.adv.cell g j' (Nat.lt_of_lt_of_le hj' (h3 g))).trans (h2.1 g j' hj'),fun b hb=>?_⟩,fun g=>Nat.le_trans (h3 g) (tr.h g),fun b hb=>⟨?_,(hall _ (hin b hb)).1.2,hin b hb⟩⟩
   ·obtain⟨cs,hcs⟩:=Option.isSome_iff_exists.1 (h4 b hb).2.1;obtain⟨T,vs,k1,k2,k3⟩:=hi.bx b cs hcs;rw[← h2.2 b hb,← (h4 b hb).1];refine tr.adv.block _ k1.lt ?_;rw[k3]
    rintro⟨i,hi',e|e⟩
    ·cases e;exact (hall _ (hin b hb)).1.1 hi'
    ·cases e
   ·rw[tr.β b (hall _ (hin b hb)).2];exact (h4 b hb).1
theorem ds_sound(hcf:Cts w0 io P num cf)(hmf:∀g ag ds q ds' q',mf g ag ds q=some (ds',q')→MarkAt w0 io P (num g) ag ds q ds' q'){ops:Array Oper}{Kn:Fm→World→Prop} :
  ∀(is:KT) {kp:Keep} {Cl:List (List Nat×(World→Prop))} {lst:Array Bool} {tk:List (List Nat×Nat)} {γ:Gh} {s s':St} {f:Fm} {w:World},okDs P N num ops is=true→evDs cf mf kp is tk s=some s'→lst.size=ops.size→Tk Cl tk lst γ s w→Inv γ h0 io w0 s f w→(∀b,900≤b→γ.β b=β0 b)→
   (∀s1 f' w',s'=s1.keep kp→InvC β0 h0 io w0 s1 f' w'→Kn f' w')→Dv P N ops Kn Cl is.ent lst f w
 | .nil,kp,Cl,lst,tk,γ,s,s',f,w,_,he,_,_,hi,hb,hk=>by
  simp only[evDs,Option.some.injEq]at he;exact v_nil (hk s f w he.symm ⟨γ,hi,hb⟩)
 | .op ⟨j,qt,al,dn,⟨d,kop,kgd⟩⟩ is,kp,Cl,lst,tk,γ,s,s',f,w,h,he,hsz,ht,hi,hb,hk=>by
  simp only[okDs,Bool.and_eq_true]at h;obtain⟨h,hrest⟩:=h;have hsz':(lst.setIfInBounds j true).size=ops.size:=by simpa using hsz
  split at h
  ·rename_i o ho;have hjl:j < lst.size:=by rw[hsz];exact (Array.getElem?_eq_some_iff.1 ho).1
   obtain⟨dst,op,ty,pos,aft,gd⟩:=o;simp only[Bool.and_eq_true,okI,beq_iff_eq,Bool.or_eq_true,Bool.not_eq_true',Option.isNone_iff_eq_none]at h;obtain⟨⟨⟨⟨⟨hdd,hd⟩,hg⟩,hop⟩,hqp⟩,hgd⟩:=h;subst hdd;cases qt with
   |true=>
    have hpu:kop.pure_=true:=by simpa using hqp
    simp only[hpu,if_true,Bool.and_eq_true]at hop;obtain⟨d,rfl⟩:=Option.isSome_iff_exists.1 hop.1;simp only[evDs,if_true]at he;have go:∀c qb,evP s kop=some c→ldBox s kop=some qb→evDs cf mf kp is (tkAdd dn tk qb) (s.put (some d) c)=some s'→Wants N ops f gd→Dv P N ops Kn Cl (.op (KD.ent ⟨j,true,al,dn,⟨some d,kop,kgd⟩⟩) is.ent) lst f w:=by
     intro c qb hc hqb he hw;cases hld:kop.isLd with
     |true=>
      have hio:Inv γ h0 io w0 (s.only qb) f w:=hi.sub (fun _ _ h=>h) (fun d c hl=>(look_only hl).2) (fun d c hl=>by simp[St.only,look]at hl);obtain⟨v,k1,k2⟩:=pure_sound (dst:=some d) (ty:=ty) (pos:=pos) (aft:=aft) (gd:=gd) hio hop.2 (evP_only hld hqb hc);have hlive:∀b,qb=some b→(look s.bx b).isSome=true:=fun b hb=>by
       subst hb;cases kop<;>simp[KO.isLd]at hld
       rotate_left
       ·simp[ldBox]at hqb
       rename_i n x;simp only[ldBox]at hqb
       split at hqb
       ·rename_i b' o hx;cases hqb;simp only[evP,hx]at hc;cases hl:look s.bx b with
        |none=>rw[hl]at hc;cases hc
        |some cs=>rfl
       ·cases hqb
       ·cases hqb
      exact v_q rfl ho rfl hw (Sq γ qb w) (fun w' hs=>k2 w' (fun _=>⟨hs.1,fun b cs hl=>hs.2 b (look_only hl).1,fun r x hl=>by simp[St.only,look]at hl⟩)) ⟨fun _ _ _=>rfl,fun _ _=>rfl⟩
       (ds_sound hcf hmf is hrest he hsz' (ht.quiet j dn qb (some d) c _ (fun _ h=>h) hlive) (hi.put d c v k1) hb hk)
     |false=>
      have eqb:qb=none:=by
       cases kop<;>simp[KO.isLd]at hld<;>simpa [ldBox] using hqb.symm
      subst eqb;obtain⟨v,k1,k2⟩:=pure_sound (dst:=some d) (ty:=ty) (pos:=pos) (aft:=aft) (gd:=gd) hi hop.2 hc;exact v_q rfl ho rfl hw (fun _=>True) (fun w' _=>k2 w' (fun h=>by rw[hld]at h;cases h)) trivial
       (ds_sound hcf hmf is hrest he hsz' (ht.quiet j dn none (some d) c _ (fun _ _=>trivial) (fun b hb=>by cases hb)) (hi.put d c v k1) hb hk)
    have skip:evDs cf mf kp is tk (s.put (some d) .und)=some s'→Wantsnt N ops f gd→Dv P N ops Kn Cl (.op (KD.ent ⟨j,true,al,dn,⟨some d,kop,kgd⟩⟩) is.ent) lst f w:=by
     intro he hw;exact v_pass rfl ho hw (ds_sound hcf hmf is hrest he hsz' (ht.quiet j dn none (some d) .und _ (fun _ _=>trivial) (fun b hb=>by cases hb)) (hi.put d .und undef (by simp only[CR])) hb hk)
    cases kgd with
    |none=>
     cases gd with
     |some x=>simp[okG]at hg
     |none=>
      simp only at he
      split at he
      ·rename_i c b hc hqb;exact go c b hc hqb he wn
      ·cases he
    |some x=>
     obtain⟨g,want⟩:=x;cases gd with
     |none=>simp[okG]at hg
     |some y=>
      obtain⟨j',want'⟩:=y;have hww:want'=want:=by simp[okG]at hg;exact hg.1
      subst hww;obtain⟨g1,g2,g3⟩:=guard_cases hi hg;simp only at he
      split at he
      ·rename_i b hgb
       split at he
       ·rename_i hbw
        split at he
        ·rename_i c b' hc hqb;exact go c b' hc hqb he (g1 b hgb hbw)
        ·cases he
       ·rename_i hbw;exact skip he (g2 b hgb hbw)
      ·rename_i hgu;exact skip he (g3 hgu)
      ·cases he
   |false=>
    simp only[evDs,stepN,Bool.false_eq_true,if_false]at he
    split at he
    ·rename_i s1 h1
     split at he
     ·rename_i hall;have htouch:∀p∈tkCut j tk,(p.2∉touch s dst kop∧(look s1.bx p.2).isSome=true)∧¬dst=some p.2:=fun p hp=>by
       have:=List.all_eq_true.1 hall p hp
       simpa using this
      have next:∀γ' f' w',Inv γ' h0 io w0 s1 f' w'→Tr dst (touch s dst kop) γ w γ' w' f f'→Cons Cl (lst.setIfInBounds j true) w'∧Dv P N ops Kn Cl is.ent (lst.setIfInBounds j true) f' w':=by
       intro γ' f' w' i' tr;have ht':=ht.noisy hjl hi tr htouch;refine⟨ht'.cons,ds_sound hcf hmf is hrest he hsz' ht' i' (fun b hb'=>?_) hk⟩;rw[tr.β b (fun e=>by
         rw[e]at hd;simp at hd;omega)]
       exact hb b hb'
      have go:Wants N ops f gd→evO cf mf s dst kop=some s1→Dv P N ops Kn Cl (.op (KD.ent ⟨j,false,al,dn,⟨dst,kop,kgd⟩⟩) is.ent) lst f w:=by
       intro hw h1;refine v_op rfl ho hw ?_;rcases evO_split h1 with ⟨hp,c,hc,rfl⟩|⟨hp,hn⟩
       ·simp only[hp,if_true,Bool.and_eq_true]at hop;obtain⟨d,rfl⟩:=Option.isSome_iff_exists.1 hop.1;obtain⟨v,k1,k2⟩:=pure_sound (dst:=some d) (ty:=ty) (pos:=pos) (aft:=aft) (gd:=gd) hi hop.2 hc;exact o_val (k2 w (fun _=>Sames.refl _ _ _)) (next γ _ w (hi.put d c v k1) ⟨Adv.refl _ _ _,fun _ _=>rfl,fun _=>Nat.le_refl _,.put⟩)
       ·simp only[hp,Bool.false_eq_true,if_false]at hop;exact noisy_sound hcf hmf hi hop hn next
      have skip:Wantsnt N ops f gd→dst.isSome=true→s1=s.put dst .und→Dv P N ops Kn Cl (.op (KD.ent ⟨j,false,al,dn,⟨dst,kop,kgd⟩⟩) is.ent) lst f w:=by
       intro hw hds e;subst e;obtain⟨d,rfl⟩:=Option.isSome_iff_exists.1 hds;have nx:=next γ _ w (hi.put d .und undef (by simp only[CR])) ⟨Adv.refl _ _ _,fun _ _=>rfl,fun _=>Nat.le_refl _,.put⟩
       exact v_passn rfl ho hw nx.1 nx.2
      simp only[evI]at h1;cases kgd with
      |none=>
       cases gd with
       |none=>exact go wn h1
       |some x=>simp[okG]at hg
      |some x=>
       obtain⟨g,want⟩:=x;have hds:dst.isSome=true:=by rcases hgd with h|h;cases h;exact h
       cases gd with
       |none=>simp[okG]at hg
       |some y=>
        obtain⟨j',want'⟩:=y;have hww:want'=want:=by simp[okG]at hg;exact hg.1
        subst hww;obtain⟨g1,g2,g3⟩:=guard_cases hi hg;simp only at h1
        split at h1
        ·rename_i b hgb
         split at h1
         ·rename_i hbw;exact go (g1 b hgb hbw) h1
         ·rename_i hbw;simp only[Option.some.injEq]at h1;exact skip (g2 b hgb hbw) hds h1.symm
        ·rename_i hgu;simp only[Option.some.injEq]at h1;exact skip (g3 hgu) hds h1.symm
        ·cases h1
     ·cases he
    ·cases he
  ·cases h
 | .alt ⟨j,qt,al,dn,⟨d,kop,kgd⟩⟩ is r,kp,Cl,lst,tk,γ,s,s',f,w,h,he,hsz,ht,hi,hb,hk=>by
  simp only[okDs,Bool.and_eq_true]at h;obtain⟨⟨h,hrest⟩,hr⟩:=h;have hsz':(lst.setIfInBounds j true).size=ops.size:=by simpa using hsz
  have hee:stepN cf mf ⟨j,qt,al,dn,⟨d,kop,kgd⟩⟩ tk s (evDs cf mf kp is)=some s'∧evDs cf mf kp r tk s=some s':=by
   simp only[evDs,both]at he
   split at he
   ·rename_i a b ha hb'
    split at he
    ·rename_i hab;subst hab;cases he;exact⟨ha,hb'⟩
    ·cases he
   ·cases he
  obtain⟨he,her⟩:=hee
  split at h
  ·rename_i o ho;have hjl:j < lst.size:=by rw[hsz];exact (Array.getElem?_eq_some_iff.1 ho).1
   obtain⟨dst,op,ty,pos,aft,gd⟩:=o;simp only[Bool.and_eq_true,okI,beq_iff_eq,Bool.not_eq_true',Option.isNone_iff_eq_none,Bool.or_eq_true]at h;obtain⟨⟨⟨⟨⟨hdd,hd⟩,hg⟩,hop⟩,hqp⟩,hgd⟩:=h;subst hdd;simp only[stepN]at he
   split at he
   ·rename_i s1 h1
    split at he
    ·rename_i hall;have htouch:∀p∈tkCut j tk,(p.2∉touch s dst kop∧(look s1.bx p.2).isSome=true)∧¬dst=some p.2:=fun p hp=>by
      have:=List.all_eq_true.1 hall p hp
      simpa using this
     have next:∀γ' f' w',Inv γ' h0 io w0 s1 f' w'→Tr dst (touch s dst kop) γ w γ' w' f f'→Cons Cl (lst.setIfInBounds j true) w'∧Dv P N ops Kn Cl is.ent (lst.setIfInBounds j true) f' w':=by
      intro γ' f' w' i' tr;have ht':=ht.noisy hjl hi tr htouch;refine⟨ht'.cons,ds_sound hcf hmf is hrest he hsz' ht' i' (fun b hb'=>?_) hk⟩;rw[tr.β b (fun e=>by
        rw[e]at hd;simp at hd;omega)]
      exact hb b hb'
     have rest:=ds_sound hcf hmf r hr her hsz ht hi hb hk;have go:Wants N ops f gd→evO cf mf s dst kop=some s1→Dv P N ops Kn Cl (.alt (KD.ent ⟨j,qt,al,dn,⟨dst,kop,kgd⟩⟩) is.ent r.ent) lst f w:=by
      intro hw h1;refine v_alt (e:=KD.ent ⟨j,qt,al,dn,⟨dst,kop,kgd⟩⟩) ho hw ?_ rest;rcases evO_split h1 with ⟨hp,c,hc,rfl⟩|⟨hp,hn⟩
      ·simp only[hp,if_true,Bool.and_eq_true]at hop;obtain⟨d,rfl⟩:=Option.isSome_iff_exists.1 hop.1;obtain⟨v,k1,k2⟩:=pure_sound (dst:=some d) (ty:=ty) (pos:=pos) (aft:=aft) (gd:=gd) hi hop.2 hc;exact o_val (k2 w (fun _=>Sames.refl _ _ _)) (next γ _ w (hi.put d c v k1) ⟨Adv.refl _ _ _,fun _ _=>rfl,fun _=>Nat.le_refl _,.put⟩)
      ·simp only[hp,Bool.false_eq_true,if_false]at hop;exact noisy_sound hcf hmf hi hop hn next
     have skip:Wantsnt N ops f gd→dst.isSome=true→s1=s.put dst .und→Dv P N ops Kn Cl (.alt (KD.ent ⟨j,qt,al,dn,⟨dst,kop,kgd⟩⟩) is.ent r.ent) lst f w:=by
      intro hw hds e;subst e;obtain⟨d,rfl⟩:=Option.isSome_iff_exists.1 hds;have nx:=next γ _ w (hi.put d .und undef (by simp only[CR])) ⟨Adv.refl _ _ _,fun _ _=>rfl,fun _=>Nat.le_refl _,.put⟩
      exact v_altn (e:=KD.ent ⟨j,qt,al,dn,⟨some d,kop,kgd⟩⟩) ho hw nx.1 nx.2 rest
     simp only[evI]at h1;cases kgd with
     |none=>
      cases gd with
      |none=>exact go wn h1
      |some x=>simp[okG]at hg
     |some x=>
      obtain⟨g,want⟩:=x;have hds:dst.isSome=true:=by rcases hgd with h|h;cases h;exact h
      cases gd with
      |none=>simp[okG]at hg
      |some y=>
       obtain⟨j',want'⟩:=y;have hww:want'=want:=by simp[okG]at hg;exact hg.1
       subst hww;obtain⟨g1,g2,g3⟩:=guard_cases hi hg;simp only at h1
       split at h1
       ·rename_i b hgb
        split at h1
        ·rename_i hbw;exact go (g1 b hgb hbw) h1
        ·rename_i hbw;simp only[Option.some.injEq]at h1;exact skip (g2 b hgb hbw) hds h1.symm
       ·rename_i hgu;simp only[Option.some.injEq]at h1;exact skip (g3 hgu) hds h1.symm
       ·cases h1
    ·cases he
   ·cases he
  ·cases h
theorem code_sound(hm:P.follows .mixedOrders=true)(hcf:Cts w0 io P num cf)(hmf:∀g ag ds q ds' q',mf g ag ds q=some (ds',q')→MarkAt w0 io P (num g) ag ds q ds' q')(n:Nat):∀(k:K) (c:Code) {s:St} {f:Fm} {w:World} {e:Ex} {s':St},okC P N num k c=true→evC cf mf n k s=some (e,s')→InvC β0 h0 io w0 s f w→
  W P N c (fun f w=>e=.norm∧InvC β0 h0 io w0 s' f w) (fun i f w=>e=.exit i∧InvC β0 h0 io w0 s' f w) (fun f w=>e=.ret∧InvC β0 h0 io w0 s' f w) f w
 | .skip,c,s,f,w,e,s',hok,he,hi=>by
  cases c<;>simp[okC]at hok
  simp only[evC,Option.some.injEq,Prod.mk.injEq]at he;obtain⟨rfl,rfl⟩:=he;exact w_skip ⟨rfl,hi⟩
 | .reg is kp,c,s,f,w,e,s',hok,he,hi=>by
  cases c with
  |region id ops draw=>
   cases draw with
   |true=>simp[okC]at hok
   |false=>
    simp only[okC]at hok;simp only[evC]at he
    split at he
    ·rename_i s1 h1;simp only[Option.some.injEq,Prod.mk.injEq]at he;obtain⟨rfl,rfl⟩:=he;have hl:=ops_sound (Kn:=fun f w=>Ex.norm=.norm∧InvC β0 h0 io w0 (s1.keep kp) f w) hcf hmf ops.toList is hok h1 hi (fun f' w' hi'=>⟨rfl,hi'.keep kp⟩);obtain⟨l⟩:=ops;exact w_region (l:=l) hl
    ·cases he
  |_=>simp[okC]at hok
 | .drw is kp,c,s,f,w,e,s',hok,he,⟨γ,hi,hb⟩=>by
  cases c with
  |region id ops draw=>
   cases draw with
   |false=>simp[okC]at hok
   |true=>
    simp only[okC,Bool.and_eq_true,beq_iff_eq]at hok;obtain⟨⟨⟨h1,h2⟩,h3⟩,h4⟩:=hok;simp only[evC]at he
    split at he
    ·rename_i s1 h5;simp only[Option.some.injEq,Prod.mk.injEq]at he;obtain⟨rfl,rfl⟩:=he;have hd:=ds_sound (P:=P) (N:=N) (num:=num) (ops:=ops) (β0:=β0) (Kn:=fun f w=>Ex.norm=.norm∧InvC β0 h0 io w0 s1 f w) (Cl:=[]) (lst:=Array.replicate ops.size false) (tk:=[]) hcf hmf is h1 h5 (by simp) (fun p hp=>by simp at hp) hi.drew hb (fun s2 f' w' e hi'=>⟨rfl,by rw[e];exact hi'.keep kp⟩);obtain⟨l⟩:=ops;exact w_drawn (l:=l) is.ent hm h2 h3 h4 hd
    ·cases he
  |_=>simp[okC]at hok
 | .seq a b,c,s,f,w,e,s',hok,he,hi=>by
  cases c with
  |seq ca cb=>
   simp only[okC,Bool.and_eq_true]at hok;simp only[evC]at he;refine w_seq ?_
   split at he
   ·rename_i s1 h1;refine w_mono (code_sound hm hcf hmf n a ca hok.1 h1 hi) (fun f w hk=>code_sound hm hcf hmf n b cb hok.2 he hk.2) (fun i f w hk=>?_) (fun f w hk=>?_)
    ·cases hk.1
    ·cases hk.1
   ·rename_i hne;refine w_mono (code_sound hm hcf hmf n a ca hok.1 he hi) (fun f w hk=>?_) (fun i f w hk=>hk) (fun f w hk=>hk);obtain⟨rfl,_⟩:=hk;exact absurd he (hne s')
  |_=>simp[okC]at hok
 | .cond x a b,c,s,f,w,e,s',hok,he,hi=>by
  cases c with
  |cond y ca cb=>
   simp only[okC,Bool.and_eq_true]at hok;obtain⟨⟨h1,h2⟩,h3⟩:=hok;simp only[evC]at he;obtain⟨γ,hi',hb⟩:=hi;have hv:=evX_rel hi' h1
   split at he
   ·rename_i t ht;rw[ht]at hv;have hv:=cr_bool hv;cases t with
    |true=>exact w_if_t hv (code_sound hm hcf hmf n a ca h2 (by simpa using he) ⟨γ,hi',hb⟩)
    |false=>exact w_if_f hv (code_sound hm hcf hmf n b cb h3 (by simpa using he) ⟨γ,hi',hb⟩)
   ·cases he
  |_=>simp[okC]at hok
 | .block i a,c,s,f,w,e,s',hok,he,hi=>by
  cases c with
  |block j ca=>
   simp only[okC,Bool.and_eq_true,beq_iff_eq]at hok;obtain⟨rfl,hok⟩:=hok;simp only[evC]at he;refine w_block ?_
   split at he
   ·rename_i i' s1 h1;refine w_mono (code_sound hm hcf hmf n a ca hok h1 hi) (fun f w hk=>by cases hk.1) (fun q f w hk=>?_) (fun f w hk=>by cases hk.1);obtain⟨e1,hk⟩:=hk;cases e1
    split at he
    ·rename_i hii;simp only[Option.some.injEq,Prod.mk.injEq]at he;obtain⟨rfl,rfl⟩:=he;rw[if_pos hii];exact⟨rfl,hk⟩
    ·rename_i hii;simp only[Option.some.injEq,Prod.mk.injEq]at he;obtain⟨rfl,rfl⟩:=he;rw[if_neg hii];exact⟨rfl,hk⟩
   ·rename_i hne;refine w_mono (code_sound hm hcf hmf n a ca hok he hi) (fun f w hk=>hk) (fun q f w hk=>?_) (fun f w hk=>hk);obtain⟨rfl,_⟩:=hk;exact absurd he (hne q s')
  |_=>simp[okC]at hok
 | .loop a,c,s,f,w,e,s',hok,he,hi=>by
  cases c with
  |loop ca=>
   simp only[okC]at hok;simp only[evC]at he;refine w_loop (fun m f w=>∃s,InvC β0 h0 io w0 s f w∧iter (evC cf mf n a) m s=some (e,s')) n ⟨s,hi,he⟩ ?_
   rintro m f w ⟨s,hi,he⟩
   cases m with
   |zero=>simp[iter]at he
   |succ m=>
    simp only[iter]at he
    split at he
    ·rename_i s1 h1;refine w_mono (code_sound hm hcf hmf n a ca hok h1 hi) (fun f w hk=>⟨m,by omega,s1,hk.2,he⟩) (fun i f w hk=>by cases hk.1) (fun f w hk=>by cases hk.1)
    ·rename_i hne;refine w_mono (code_sound hm hcf hmf n a ca hok he hi) (fun f w hk=>?_) (fun i f w hk=>hk) (fun f w hk=>hk);obtain⟨rfl,_⟩:=hk;exact absurd he (hne s')
  |_=>simp[okC]at hok
 | .exit i,c,s,f,w,e,s',hok,he,hi=>by
  cases c<;>simp[okC]at hok
  subst hok;simp only[evC,Option.some.injEq,Prod.mk.injEq]at he;obtain⟨rfl,rfl⟩:=he;exact w_exit ⟨rfl,hi⟩
 | .ret,c,s,f,w,e,s',hok,he,hi=>by
  cases c<;>simp[okC]at hok
  simp only[evC,Option.some.injEq,Prod.mk.injEq]at he;obtain⟨rfl,rfl⟩:=he;exact w_ret ⟨rfl,hi⟩
 | .share r a,c,s,f,w,e,s',hok,he,⟨γ,hi,hb⟩=>by
  have hok':okC P N num a c=true:=by
   cases c<;>simpa [okC] using hok
  simp only[evC]at he;obtain⟨γ',i',b',_⟩:=hi.shareR [r];exact code_sound hm hcf hmf n a c hok' he ⟨γ',i',fun b hb'=>by rw[b'];exact hb b hb'⟩
 | .dat d a,c,s,f,w,e,s',hok,he,⟨γ,hi,hb⟩=>by
  have hok':okC P N num a c=true:=by
   cases c<;>simpa [okC] using hok
  simp only[evC]at he
  split at he
  ·rename_i s1 hs1;obtain⟨γ',i',b'⟩:=hi.datS hs1;exact code_sound hm hcf hmf n a c hok' he ⟨γ',i',fun b hb'=>by rw[b'];exact hb b hb'⟩
  ·cases he
end
end
section
open Go.RowKit
def okR1(P:Program)(N:Nat):ResultVar→KR→Bool
 | .tmp t,.t d=>t ==d && Nat.blt t N
 | .cell a T,.c d n=>a ==d && Nat.blt a N && (if n=0 then aggB P T ==some false else aggB P T ==some true && sizeB P T ==some n)
 |_,_=>false
def okRs(P:Program)(N:Nat):List ResultVar→List KR→Bool
 |[],[]=>true
 |r::rs,k::ks=>okR1 P N r k && okRs P N rs ks
 |_,_=>false
def okF(P:Program)(num:Nat→FuncId)(f:Nat)(kf:KF):Bool:=
 match P.funcs[num f]? with
 |some fn=>match fn.body with
  |some c=>okC P fn.ntmps num kf.body c && Nat.ble kf.np fn.ntmps && okRs P fn.ntmps fn.results.toList kf.res
  |none=>false
 |none=>false
def resOne(tmps:Array Value):ResultVar→Sem Value
 | .tmp t=>pure (tmps.getD t undef)
 | .cell a t=>do loadVar t (← asAddr (tmps.getD a undef))
section
variable {P:Program} {γ:Gh} {h0:Nat→Nat} {io:List Nat} {w0:World} {s s':St} {f:Fm} {w:World} {N:Nat} {num:Nat→FuncId}
theorem resA_rel(hi:Inv γ h0 io w0 s f w){rv:ResultVar}{kr:KR}{a:A}{l:List Nat}(hok:okR1 P N rv kr=true)(he:resA s kr=some (a,l)) :
  ∃u F,(resOne (fr f N).tmps rv).run P w=.ok u w∧AR γ.h w a u F∧(∀g∈F,∃r∈l,γ.ω g=.row r)∧(l.Nodup→F.Nodup):=by
 cases rv with
 |tmp t=>
  cases kr with
  |c d n=>simp[okR1]at hok
  |t d=>
   simp only[okR1,Bool.and_eq_true,beq_iff_eq]at hok;obtain⟨rfl,ht⟩:=hok;have hlt:t < N:=by simpa using ht
   simp only[resA,Option.map_eq_some_iff,Prod.mk.injEq]at he;obtain⟨vs,hvs,rfl,rfl⟩:=he;obtain⟨k1,k2,k3⟩:=(hi.get t).cells (wr_cell hvs);obtain⟨F,x1,x2,x3⟩:=wr_rel hi _ k1 hvs;refine⟨f t,F,by simp[resOne,fr,hlt],?_,x2,x3⟩;simp only[AR];refine⟨_,x1,fun hag=>?_,fun hag=>by rw[k2 hag]⟩;obtain⟨us,e⟩:=k3 hag;rw[e];simp[Value.cells]
 |cell a0 T=>
  cases kr with
  |t d=>simp[okR1]at hok
  |c d n=>
   simp only[okR1,Bool.and_eq_true,beq_iff_eq]at hok;obtain⟨⟨rfl,ht⟩,hty⟩:=hok;have hlt:a0 < N:=by simpa using ht
   simp only[resA]at he
   split at he
   ·rename_i b hb;have hg:=hi.get a0;rw[hb]at hg;simp only[CR]at hg
    split at he
    ·rename_i cs hl;obtain⟨T',vs,h1,h2,h3⟩:=hi.bx b cs hl;have hlies:Lies w (γ.β b) 0 vs:=h1.lies
     split at he
     ·rename_i hn;subst hn;simp only[if_true,beq_iff_eq]at hty
      split at he
      ·rename_i c;simp only[Option.map_eq_some_iff,Prod.mk.injEq]at he;obtain⟨rs,hrs,rfl,rfl⟩:=he;obtain⟨F,x1,x2,x3⟩:=wr_rel hi _ h2 hrs;have hvl:=h2.length;obtain⟨v,rfl⟩:=List.length_eq_one_iff.1 hvl;have hc:=hlies 0 v rfl;simp only[Nat.zero_add]at hc;refine⟨v,F,?_,?_,x2,x3⟩
       ·simp[resOne,fr,hlt,hg,asAddr,loadVar,run_isAgg hty,load,Sem.run,hc]
       ·simp only[AR];exact⟨[v],x1,fun h=>by simp at h,fun _=>rfl⟩
      ·cases he
     ·rename_i hn;simp only[if_neg hn,Bool.and_eq_true,beq_iff_eq]at hty
      split at he
      ·rename_i hcl;simp only[Option.map_eq_some_iff,Prod.mk.injEq]at he;obtain⟨rs,hrs,rfl,rfl⟩:=he;obtain⟨F,x1,x2,x3⟩:=wr_rel hi _ h2 hrs;have hvl:=h2.length;have h0':=run_loadCellsFrom (P:=P) (w:=w) (b:=γ.β b) (o:=0) vs 0 #[] (by simpa using hlies);have hvn:vs.length=n:=by omega
       rw[hvn]at h0';refine⟨.agg vs.toArray,F,?_,?_,x2,x3⟩
       ·simp[resOne,fr,hlt,hg,asAddr,loadVar,run_isAgg hty.1,run_sizeOf hty.2,loadCells,h0']
       ·simp only[AR];exact⟨vs,x1,fun _=>rfl,fun h=>by simp at h⟩
      ·cases he
    ·cases he
   ·cases he
theorem resAs_rel(hi:Inv γ h0 io w0 s f w):∀(rvs:List ResultVar) (krs:List KR) {as:List A} {l:List Nat},okRs P N rvs krs=true→resAs s krs=some (as,l)→
  ∃us F,(rvs.mapM (resOne (fr f N).tmps)).run P w=.ok us w∧ARs γ.h w as us F∧(∀g∈F,∃r∈l,γ.ω g=.row r)∧(l.Nodup→F.Nodup)
 |[],[],as,l,_,he=>by
  simp only[resAs,Option.some.injEq,Prod.mk.injEq]at he;obtain⟨rfl,rfl⟩:=he;exact⟨[],[],by simp,by simp[ARs],fun _ h=>by simp at h,fun _=>by simp⟩
 |[],_::_,_,_,h,_=>by simp[okRs]at h
 |_::_,[],_,_,h,_=>by simp[okRs]at h
 |rv::rvs,kr::krs,as,l,h,he=>by
  simp only[okRs,Bool.and_eq_true]at h;simp only[resAs]at he
  split at he
  ·rename_i a l1 h1;simp only[Option.map_eq_some_iff]at he;obtain⟨⟨as',l2⟩,h2,h3⟩:=he;simp only[Prod.mk.injEq]at h3;obtain⟨rfl,rfl⟩:=h3;obtain⟨u,F1,r1,x1,y1,z1⟩:=resA_rel hi h.1 h1;obtain⟨us,F2,r2,x2,y2,z2⟩:=resAs_rel hi rvs krs h.2 h2;refine⟨u::us,F1++F2,by simp[r1,r2],?_,fun g hg=>?_,fun hn=>?_⟩
   ·simp only[ARs];exact⟨u,us,F1,F2,rfl,rfl,x1,x2⟩
   ·rcases List.mem_append.1 hg with hg|hg
    ·obtain⟨r,hr,h4⟩:=y1 g hg;exact⟨r,by simp[hr],h4⟩
    ·obtain⟨r,hr,h4⟩:=y2 g hg;exact⟨r,by simp[hr],h4⟩
   ·rw[List.nodup_append]at hn;rw[List.nodup_append];refine⟨z1 hn.1,z2 hn.2.1,?_⟩;intro a ha b hb e;subst e;obtain⟨r,hr,h4⟩:=y1 a ha;obtain⟨q,hq,h5⟩:=y2 a hb;rw[h4]at h5;cases h5;exact hn.2.2 r hr r hq rfl
  ·cases he
theorem outAs_rel(hi:Inv γ h0 io w0 s f w){w1:World}{h1:Nat→Nat}:∀(as:List A) {vs:List Value} {F0:List Nat} (p:Nat) {outs:List A} {l:List Nat},outAs s p as=some (outs,l)→ARs h1 w1 as vs F0→(∀i cs g,as[i]?=some (.box cs)→vs[i]?=some (.pointer (some ⟨g,0,none⟩))→γ.β (900+(p+i))=g)→
  ∃F,ARs γ.h w outs (outVals as vs) F∧(∀g∈F,(∃r∈l,γ.ω g=.row r)∨∃i,p≤i∧γ.ω g=.box (900+i))∧(l.Nodup→F.Nodup)
 |[],vs,F0,p,outs,l,he,ha,_=>by
  simp only[outAs,Option.some.injEq,Prod.mk.injEq]at he;obtain⟨rfl,rfl⟩:=he;exact⟨[],by simp[ARs,outVals],fun _ h=>by simp at h,fun _=>by simp⟩
 | .val ag cs::as,vs,F0,p,outs,l,he,ha,hβ=>by
  simp only[ARs]at ha;obtain⟨v,vs',F1,F2,rfl,rfl,_,ha⟩:=ha;simp only[outAs,outA,Option.map_eq_some_iff]at he;obtain⟨⟨l',r'⟩,h2,h3⟩:=he;simp only[List.nil_append,Prod.mk.injEq]at h3;obtain⟨rfl,rfl⟩:=h3;obtain⟨F,x1,x2,x3⟩:=outAs_rel hi as (p+1) h2 ha (fun i cs' g h4 h5=>by
   rw[show p+1+i=p+(i+1) from by omega];exact hβ (i+1) cs' g (by simpa using h4) (by simpa using h5))
  refine⟨F,by simpa only [outVals] using x1,fun g hg=>?_,x3⟩;rcases x2 g hg with h|⟨i,h4,h5⟩
  ·exact .inl h
  ·exact .inr ⟨i,by omega,h5⟩
 | .box cs::as,vs,F0,p,outs,l,he,ha,hβ=>by
  simp only[ARs,AR]at ha;obtain⟨v,vs',F1,F2,rfl,rfl,⟨g0,T0,us0,F0',rfl,_⟩,ha⟩:=ha;simp only[outAs,outA]at he
  split at he
  ·rename_i l1 r1 hh
   split at hh
   ·rename_i bcs hl;simp only[Option.map_eq_some_iff,Prod.mk.injEq]at hh;obtain⟨rs,hrs,rfl,rfl⟩:=hh;simp only[Option.map_eq_some_iff]at he;obtain⟨⟨l',r'⟩,h2,h3⟩:=he;simp only[Prod.mk.injEq]at h3;obtain⟨rfl,rfl⟩:=h3;have hb0:=hβ 0 cs g0 rfl rfl;rw[Nat.add_zero]at hb0;obtain⟨T,us,k1,k2,k3⟩:=hi.bx (900+p) bcs hl;obtain⟨Fr,y1,y2,y3⟩:=wr_rel hi _ k2 hrs;obtain⟨F,x1,x2,x3⟩:=outAs_rel hi as (p+1) h2 ha (fun i cs' g h4 h5=>by
     rw[show p+1+i=p+(i+1) from by omega];exact hβ (i+1) cs' g (by simpa using h4) (by simpa using h5))
    rw[hb0]at k1 k3;refine⟨(g0::Fr)++F,?_,fun g hg=>?_,fun hn=>?_⟩
    ·simp only[outVals,List.cons_append,List.nil_append,ARs];refine⟨_,_,g0::Fr,F,rfl,rfl,?_,x1⟩;simp only[AR];exact⟨g0,T,us,Fr,rfl,k1,hi.hbox _ _ k3,rfl,y1⟩
    ·rcases List.mem_append.1 hg with hg|hg
     ·rcases List.mem_cons.1 hg with rfl|hg
      ·exact .inr ⟨p,Nat.le_refl _,k3⟩
      ·obtain⟨r,hr,h4⟩:=y2 g hg;exact .inl ⟨r,by simp[hr],h4⟩
     ·rcases x2 g hg with ⟨r,hr,h4⟩|⟨i,h4,h5⟩
      ·exact .inl ⟨r,by simp[hr],h4⟩
      ·exact .inr ⟨i,by omega,h5⟩
    ·rw[List.nodup_append]at hn;rw[List.nodup_append];refine⟨List.nodup_cons.2 ⟨fun hm=>?_,y3 hn.1⟩,x3 hn.2.1,?_⟩
     ·obtain⟨r,_,h4⟩:=y2 _ hm;rw[k3]at h4;cases h4
     ·intro a ha' b hb e;subst e;rcases List.mem_cons.1 ha' with rfl|ha'
      ·rcases x2 _ hb with ⟨r,_,h4⟩|⟨i,h4,h5⟩
       ·rw[k3]at h4;cases h4
       ·rw[k3]at h5;simp only[Own.box.injEq]at h5;omega
      ·obtain⟨r,hr,h4⟩:=y2 a ha';rcases x2 a hb with ⟨q,hq,h5⟩|⟨i,_,h5⟩
       ·rw[h4]at h5;cases h5;exact hn.2.2 r hr r hq rfl
       ·rw[h4]at h5;cases h5
   ·cases hh
  ·cases he
theorem results_run{fn:Func}{us:List Value}(h:(fn.results.toList.mapM (resOne (fr f N).tmps)).run P w=.ok us w):∃v,(results fn (fr f N).tmps).run P w=.ok v w∧RetV us v:=by
 have h':(fn.results.mapM (resOne (fr f N).tmps)).run P w=.ok us.toArray w:=by
  rw[Array.mapM_eq_mapM_toList];simp[h]
 have e:results fn (fr f N).tmps=(do
   let vs ← fn.results.mapM (resOne (fr f N).tmps)
   pure (if h:vs.size=1 then vs[0] else .tuple vs)):=by
  unfold results
  congr 1
 rw[e];simp only[Sem.run_bind,h',Result.andThen_ok,Sem.run_pure];by_cases hl:us.length=1
 ·obtain⟨v,rfl⟩:=List.length_eq_one_iff.1 hl;exact⟨v,by simp,.inl rfl⟩
 ·exact⟨.tuple us.toArray,by simp[hl],.inr ⟨hl,rfl⟩⟩
end
theorem fun_sound {P : Program} {num : Nat → FuncId} {cf : Nat → List A → Option (List A × List A)} {mf : Nat → Bool → List D → Int → Option (List D × Int)} (hm : P.follows .mixedOrders = true) (hj : num 9004 ≠ 1000000 → JoinOk P (num 9004)) (hcf : ∀ g a r o, cf g a = some (r, o) → CallOk P (num g) a r o) (hmf : ∀ g ag ds q ds' q', mf g ag ds q = some (ds', q') → MarkOk P (num g) ag ds q ds' q') {n f : Nat} {kf : KF} (hok : okF P num f kf = true) {args rs outs : List A} (he : runF cf mf n kf args = some (rs, outs)) : CallOk P (num f) args rs outs := by
      unfold runF at he
      split at he
      · rename_i hnp
        unfold okF at hok
        split at hok
        · rename_i fn hfn
          split at hok
          · rename_i c hc
            simp only [Bool.and_eq_true] at hok
            obtain ⟨⟨hok1, hok2⟩, hok3⟩ := hok
            intro w h vs F hL hA hnd hlt hnew
            have hvl : vs.length = args.length := by
              clear hok1 hok2 hok3 he hnp hnd hlt hL
              induction args generalizing vs F with
              | nil => simp only [ARs] at hA; simp [hA.1]
              | cons a as ih =>
                simp only [ARs] at hA
                obtain ⟨v, vs', F1, F2, rfl, rfl, _, hA⟩ := hA
                simp [ih _ _ hA]
            refine enter (N := fn.ntmps) hfn hc rfl (by simp only [List.size_toArray, hvl, hnp]; exact hok2) ?_
            have i0 : Inv ⟨h, fun _ => 0, fun _ => undef, fun g => if g ∈ F then .lim else .free⟩ h F w ⟨[], [], []⟩ (fun i => vs.toArray.getD i undef) w := {
              sl := fun d c hl => by simp [look] at hl
              bx := fun d c hl => by simp [look] at hl
              rw := fun d c hl => by simp [look] at hl
              own := fun g hg => by
                by_cases hF : g ∈ F
                · exact ⟨hlt g hF, .inr hF⟩
                · simp [hF] at hg
              hbox := fun g b hg => by dsimp only at hg; split at hg <;> cases hg
              hnew := hnew, os := rfl, tape := rfl, output := rfl, size := Nat.le_refl _, frame := fun _ _ _ => rfl, cell := fun _ _ _ _ => rfl, mono := fun _ _ => Nat.le_refl _, hold := fun _ _ _ => rfl, kthaw := fun _ h => h }
            obtain ⟨γ1, i1, e1, p1, x1⟩ := enterAs_rel args 0 i0 hA hnd (fun g hg => ⟨.inr (by simp [hg]), hlt g hg, .inr hg⟩) (fun i v hv => by
              rw [Nat.zero_add]
              have := (List.getElem?_eq_some_iff.1 hv)
              obtain ⟨hil, hiv⟩ := this
              simp [hil, hiv])
            have fin : ∀ (s : St) f' w', leave kf args s = some (rs, outs) → InvC γ1.β h F w s f' w' → ∃ v, (results fn (fr f' fn.ntmps).tmps).run P w' = .ok v w' ∧ ∃ v' us F1 F2 h', Ending.returned v = .returned v' ∧ RetV us v' ∧ ARs h' w' rs us F1 ∧ ARs h' w' outs (outVals args vs) F2 ∧ (F1 ++ F2).Nodup ∧ (∀ g ∈ F1 ++ F2, (w.heap.size ≤ g ∨ g ∈ F) ∧ g < w'.heap.size) ∧ Chg h F w w' h' := by
              intro s f' w' hlv ⟨γ, hi, hb⟩
              unfold leave at hlv
              split at hlv
              · rename_i rs' l outs' l' hr1 hr2
                split at hlv
                · rename_i hn
                  rw [nodupB_iff] at hn
                  simp only [Option.some.injEq, Prod.mk.injEq] at hlv
                  obtain ⟨rfl, rfl⟩ := hlv
                  obtain ⟨us, F1, k1, k2, k3, k4⟩ := resAs_rel hi fn.results.toList kf.res hok3 hr1
                  obtain ⟨F2, y1, y2, y3⟩ := outAs_rel hi args 0 hr2 hA (fun i cs g h4 h5 => by
                    rw [hb _ (by omega)]
                    exact x1 i cs g h4 h5)
                  obtain ⟨v, z1, z2⟩ := results_run k1
                  rw [List.nodup_append] at hn
                  refine ⟨v, z1, v, us, F1, F2, γ.h, rfl, z2, k2, y1, ?_, fun g hg => ?_, ⟨hi.os, hi.tape, hi.output, hi.size, hi.frame, hi.cell, hi.mono, hi.hold, hi.hnew, hi.kthaw⟩⟩
                  · rw [List.nodup_append]
                    refine ⟨k4 hn.1, y3 hn.2.1, ?_⟩
                    intro a ha b hb' e
                    subst e
                    obtain ⟨r, hr, h4⟩ := k3 a ha
                    rcases y2 a hb' with ⟨q, hq, h5⟩ | ⟨i, _, h5⟩
                    · rw [h4] at h5; cases h5; exact hn.2.2 r hr r hq rfl
                    · rw [h4] at h5; cases h5
                  · have hne : γ.ω g ≠ .free := by
                      rcases List.mem_append.1 hg with hg | hg
                      · obtain ⟨r, _, h4⟩ := k3 g hg
                        rw [h4]; simp
                      · rcases y2 g hg with ⟨r, _, h4⟩ | ⟨i, _, h4⟩ <;> rw [h4] <;> simp
                    exact ⟨(hi.own g hne).2, (hi.own g hne).1⟩
                · cases hlv
              · cases hlv
            split at he
            · rename_i s hev
              refine w_mono (code_sound (β0 := γ1.β) hm ⟨fun g a r o he => (hcf g a r o he).at_ hL, hj⟩ (fun g ag ds q ds' q' he => (hmf g ag ds q ds' q' he).at_ hL) n kf.body c hok1 hev ⟨γ1, i1, fun _ _ => rfl⟩) (fun f' w' hk => fin s f' w' he hk.2) (fun i f' w' hk => by cases hk.1) (fun f' w' hk => by cases hk.1)
            · rename_i s hev
              refine w_mono (code_sound (β0 := γ1.β) hm ⟨fun g a r o he => (hcf g a r o he).at_ hL, hj⟩ (fun g ag ds q ds' q' he => (hmf g ag ds q ds' q' he).at_ hL) n kf.body c hok1 hev ⟨γ1, i1, fun _ _ => rfl⟩) (fun f' w' hk => by cases hk.1) (fun i f' w' hk => by cases hk.1) (fun f' w' hk => fin s f' w' he hk.2)
            · cases he
          · cases hok
        · cases hok
      · cases he
def OkK(P:Program)(num:Nat→FuncId)(f:Nat)(kf:KF):Prop:=
 (kf.np≠999→okF P num f kf=true)∧(kf.np=999→∀args rs outs,XT f args=some (rs,outs)→CallOk P (num f) args rs outs)
theorem OkK.of{P:Program}{num:Nat→FuncId}{f:Nat}{kf:KF}(h:okF P num f kf=true)(hn:Nat.blt kf.np 999=true):OkK P num f kf:=
 ⟨fun _=>h,fun e=>by rw[e]at hn;cases hn⟩
theorem OkK.ext{P:Program}{num:Nat→FuncId}{f:Nat}{b:K}{r:List KR}(h:∀args rs outs,XT f args=some (rs,outs)→CallOk P (num f) args rs outs):OkK P num f ⟨999,b,r⟩:=
 ⟨fun e=>absurd rfl e,fun _=>h⟩
theorem evF_sound{P:Program}{num:Nat→FuncId}{T:Nat→Option KF}(hm:P.follows .mixedOrders=true)(hj:num 9004≠1000000→JoinOk P (num 9004))(hT:∀f kf,T f=some kf→OkK P num f kf) :
  ∀(n f:Nat) (args rs outs:List A),evF T n f args=some (rs,outs)→CallOk P (num f) args rs outs
 |0,f,args,rs,outs,he=>by simp[evF]at he
 |n+1,f,args,rs,outs,he=>by
  simp only[evF]at he
  split at he
  ·cases he
  ·rename_i kf hkf
   split at he
   ·rename_i hx;exact (hT f kf hkf).2 hx args rs outs he
   ·rename_i hx;exact fun_sound hm hj (fun g a r o=>evF_sound hm hj hT n g a r o) (fun g ag ds q ds' q' h=>by cases h) ((hT f kf hkf).1 hx) he
end
section
open Go.RowKit
inductive MC where
 |lst
 |ep (i o:Nat)
 |hd (i o:Nat)
 |sub (i o n:Nat)
 |non
def MC.noSub:MC→MC
 | .sub _ _ _=>.non
 |c=>c
structure MS where
 s:St
 sp:List (Nat×MC)
 es:List (List D)
def MS.spx(m:MS):KX→Option MC
 | .s d=>look m.sp d
 | .k _=>none
def MS.put(m:MS)(d:Nat)(c:C):MS:=⟨m.s.put (some d) c,drp m.sp d,m.es⟩
def MS.putS(m:MS)(d:Nat)(c:MC):MS:=⟨m.s.put (some d) .any,(d,c)::drp m.sp d,m.es⟩
def MS.set(m:MS)(i o:Nat)(ds:List D):MS:=⟨m.s,m.sp,match nth m.es i with
 |some e=>m.es.set i (splC e o ds)
 |none=>m.es⟩
def MS.noSub(m:MS):MS:=⟨m.s,m.sp.map fun p=>(p.1,p.2.noSub),m.es⟩
def MS.keep(m:MS)(kp:Keep):MS:=⟨m.s.keep kp,keepL m.sp kp.s,m.es⟩
def MS.at_(m:MS)(i o:Nat):Option D:=match nth m.es i with
 |some e=>nth e o
 |none=>none
def plainA:List C→Option (List A)
 |[]=>some []
 | .d x::cs=>if D.plain x then (plainA cs).map (.val false [.d x]::·) else none
 |_=>none
section
variable (cf:Nat→List A→Option (List A×List A)) (mf:Nat→Bool→List D→Int→Option (List D×Int)) (own:Bool) (k:Nat)
def evMp(m:MS)(d f:Nat)(xs:List KX):Option MS:=
 match plainA (xs.map (evX m.s)) with
 |some as=>match cf f as with
  |some ([.val false [.d r]],[])=>if D.plain r then some (m.put d (.d r)) else none
  |_=>none
 |none=>none
def evMm(m:MS)(d f:Nat)(c:MC)(y:C):Option MS:=
 match c,y with
 | .hd i o,.d (.int .i64 q)=>match m.at_ i o with
  |some (.list k fl es)=>match mf f false [.list k fl es] q with
   |some ([x'],q')=>some ((m.set i o [x']).put d (.d (.int .i64 q')))
   |_=>none
  |_=>none
 | .sub i o n,.d (.int .i64 q)=>match nth m.es i with
  |some e=>match mf f true ((e.drop o).take n) q with
   |some (xs,q')=>if o+n≤e.length∧xs.length=n then some ((m.set i o xs).put d (.d (.int .i64 q'))) else none
   |none=>none
  |none=>none
 |_,_=>none
def evM1(m:MS)(d:Nat):KO→Option MS
 | .mv x=>match m.spx x with
  |some c=>some (m.putS d c)
  |none=>some (m.put d (evX m.s x))
 | .len x=>match m.spx x with
  |some .lst=>some (m.put d (.d (.int .i64 m.es.length)))
  |_=>none
 | .ia k' x y=>match m.spx x,evX m.s y with
  |some .lst,.d (.int .i64 n)=>if k'=k∧0≤n∧n.toNat < m.es.length then some (m.putS d (.ep n.toNat 0)) else none
  |_,_=>none
 | .fa o x=>match m.spx x with
  |some (.ep i p)=>some (m.putS d (.ep i (p+o)))
  |_=>none
 | .ld n x=>match m.spx x with
  |some (.ep i o)=>if n=0 then (match m.at_ i o with
    |some (.list _ _ _)=>some (m.putS d (.hd i o))
    |_=>none) else (match nth m.es i with
    |some e=>if o+n≤e.length then some (m.putS d (.sub i o n)) else none
    |none=>none)
  |_=>none
 | .call f xs=>match xs with
  |[x,y]=>(match m.spx x with
   |some c=>evMm mf m d f c (evX m.s y)
   |none=>evMp cf m d f xs)
  |_=>evMp cf m d f xs
 |op=>if op.pure_ then (evP m.s op).map (m.put d) else none
def evM0(m:MS):KO→Option MS
 | .st n x y=>match m.spx x,evX m.s y with
  |some (.ep i o),.d v=>match m.at_ i o with
   |some c=>if n=1∧own=true∧D.plain c=true∧D.plain v=true then some (m.set i o [v]).noSub else none
   |none=>none
  |_,_=>none
 |_=>none
def evMI(m:MS)(i:KI):Option MS:=
 match i.gd with
 |some _=>none
 |none=>match i.dst with
  |some d=>evM1 cf mf k m d i.op
  |none=>evM0 own m i.op
def evMs:List KI→MS→Option MS
 |[],m=>some m
 |i::is,m=>match evMI cf mf own k m i with
  |some m'=>evMs is m'
  |none=>none
def iterM(f:MS→Option (Ex×MS)):Nat→MS→Option (Ex×MS)
 |0,_=>none
 |n+1,s=>match f s with
  |some (.norm,s')=>iterM f n s'
  |r=>r
def evMC(n:Nat):K→MS→Option (Ex×MS)
 | .skip,m=>some (.norm,m)
 | .reg ops kp,m=>match evMs cf mf own k ops m with
  |some m'=>some (.norm,m'.keep kp)
  |none=>none
 | .seq a b,m=>match evMC n a m with
  |some (.norm,m')=>evMC n b m'
  |r=>r
 | .cond c a b,m=>match evX m.s c with
  | .d (.bool t)=>if t then evMC n a m else evMC n b m
  |_=>none
 | .block id a,m=>match evMC n a m with
  |some (.exit i,m')=>if i=id then some (.norm,m') else some (.exit i,m')
  |r=>r
 | .loop a,m=>iterM (evMC n a) n m
 | .exit id,m=>some (.exit id,m)
 | .ret,m=>some (.ret,m)
 |_,_=>none
end
def outM(r:Nat):Option (Ex×MS)→Option (List (List D)×Int)
 |some (.norm,m)=>(match m.s.get r with
  | .d (.int .i64 q)=>some (m.es,q)
  |_=>none)
 |some (.ret,m)=>(match m.s.get r with
  | .d (.int .i64 q)=>some (m.es,q)
  |_=>none)
 |_=>none
noncomputable def evM(T:Nat→Option KF):Nat→Nat→Bool→List D→Int→Option (List D×Int)
 |0,_,_,_,_=>none
 |n+1,f,ag,cells,q=>match T f with
  |some ⟨2,body,[.t r]⟩=>
   if ag then (match body with
    | .seq (.reg (⟨some b,.box (.s 0),none⟩::is) kp) body'=>
     (match evMs (evF T n) (evM T n) false cells.length is (MS.putS ⟨⟨[(1,.d (.int .i64 q))],[],[]⟩,[],[cells]⟩ b (.ep 0 0)) with
     |some m=>(match outM r (evMC (evF T n) (evM T n) false cells.length n body' (m.keep kp)) with
      |some ([cells'],q')=>some (cells',q')
      |_=>none)
     |none=>none)
    |_=>none)
   else (match cells with
    |[.list k fl es]=>(match outM r (evMC (evF T n) (evM T n) true k n body ⟨⟨[(1,.d (.int .i64 q))],[],[]⟩,[(0,.lst)],es⟩) with
     |some (es',q')=>some ([.list k fl es'],q')
     |none=>none)
    |_=>none)
  |_=>none
theorem RpL.ofC{w:World}:∀(ds:List D) {vs:List Value} {G:Fp},RpC w ds vs G→∃Fs,Fs.flatten=G∧RpL w ds vs Fs
 |[],_,_,h=>by
  simp only[RpC]at h;exact⟨[],by simp[h.2],by simp[RpL,h.1]⟩
 |d::ds,_,_,h=>by
  simp only[RpC]at h;obtain⟨v,vs',F1,F2,rfl,rfl,h1,h2⟩:=h;obtain⟨Fs,rfl,h3⟩:=RpL.ofC ds h2;exact⟨F1::Fs,by simp,by simp only[RpL];exact⟨v,vs',F1,Fs,rfl,rfl,h1,h3⟩⟩
theorem RpL.length{w:World}:∀(ds:List D) {vs:List Value} {Fs:List Fp},RpL w ds vs Fs→vs.length=ds.length∧Fs.length=ds.length
 |[],_,_,h=>by simp only[RpL]at h;simp[h.1,h.2]
 |d::ds,_,_,h=>by
  simp only[RpL]at h;obtain⟨v,vs',F,Fs',rfl,rfl,h1,h2⟩:=h;simp[RpL.length ds h2]
theorem RpL.append{w:World}:∀(ds:List D) {es:List D} {vs us:List Value} {Fs Gs:List Fp},RpL w ds vs Fs→RpL w es us Gs→RpL w (ds++es) (vs++us) (Fs++Gs)
 |[],_,_,_,_,_,h,h'=>by simp only[RpL]at h;obtain⟨rfl,rfl⟩:=h;simpa using h'
 |d::ds,_,_,_,_,_,h,h'=>by
  simp only[RpL]at h;obtain⟨v,vs',F,Fs',rfl,rfl,h1,h2⟩:=h;simp only[List.cons_append,RpL];exact⟨v,_,F,_,rfl,rfl,h1,RpL.append ds h2 h'⟩
theorem RpL.drop{w:World}:∀(ds:List D) {vs:List Value} {Fs:List Fp} (n:Nat),RpL w ds vs Fs→RpL w (ds.drop n) (vs.drop n) (Fs.drop n)
 |_,_,_,0,h=>by simpa using h
 |[],_,_,n+1,h=>by simp only[RpL]at h;simp[RpL,h.1,h.2]
 |d::ds,_,_,n+1,h=>by
  simp only[RpL]at h;obtain⟨v,vs',F,Fs',rfl,rfl,h1,h2⟩:=h
  simpa using RpL.drop ds n h2
theorem RpL.take{w:World}:∀(ds:List D) {vs:List Value} {Fs:List Fp} (n:Nat),RpL w ds vs Fs→RpL w (ds.take n) (vs.take n) (Fs.take n)
 |_,_,_,0,h=>by simp[RpL]
 |[],_,_,n+1,h=>by simp only[RpL]at h;simp[RpL,h.1,h.2]
 |d::ds,_,_,n+1,h=>by
  simp only[RpL]at h;obtain⟨v,vs',F,Fs',rfl,rfl,h1,h2⟩:=h;simp only[List.take_succ_cons,RpL];exact⟨v,_,F,_,rfl,rfl,h1,RpL.take ds n h2⟩
theorem RpL.spl{w:World}{ds ns:List D}{vs us:List Value}{Fs Gs:List Fp}(o:Nat)(h:RpL w ds vs Fs)(h':RpL w ns us Gs):RpL w (splC ds o ns) (splC vs o us) (splC Fs o Gs):=by
 obtain⟨e1,e2⟩:=RpL.length ns h';unfold splC;rw[e1,e2];exact RpL.append _ (RpL.append _ (RpL.take ds o h) h') (RpL.drop ds _ h)
theorem RpL.keep{w w':World}:∀(ds:List D) {vs:List Value} {Fs:List Fp},RpL w ds vs Fs→(∀F∈Fs,∀be∈F,w'.heap[be.1]?=w.heap[be.1]?)→RpL w' ds vs Fs
 |[],_,_,h,_=>by simpa only [RpL] using h
 |d::ds,_,_,h,hk=>by
  simp only[RpL]at h ⊢;obtain⟨v,vs',F,Fs',rfl,rfl,h1,h2⟩:=h;exact⟨v,vs',F,Fs',rfl,rfl,h1.keep d (fun be hb j _=>World.cell?_of_block (w:=w) (hk F (by simp) be hb)),RpL.keep ds h2 (fun G hG=>hk G (by simp[hG]))⟩
end
section
open Go.RowKit
structure Tree where
 g:Nat
 p:Nat
 k:Nat
 n:Nat
 Fs:List Fp
 hv:List Value
 pl:List Bool
 ro:Bool
end
section
open Go.RowKit
section
variable {P:Program} {N:Nat} {t:Tree} {own:Bool} {h:Nat→Nat} {F:List Nat} {w0:World} {m:MS} {f:Fm} {w w':World}
variable {num:Nat→FuncId} {cf:Nat→List A→Option (List A×List A)} {mf:Nat→Bool→List D→Int→Option (List D×Int)} {K':Fm→World→Prop} {d:Nat} {ty:TypeId} {pos:String} {aft:Array Edge} {gd:Option (Nat×Bool)} {m':MS}
end
end
section
open Go.RowKit
end
section
open Go.RowKit
end
section
abbrev Cf:=Nat→List A→Option (List A×List A)
abbrev Mf:=Nat→Bool→List D→Int→Option (List D×Int)
inductive Qu where
 |c (f:Nat) (a:List A) (r:List A×List A)
 |m (f:Nat) (g:Bool) (ds:List D) (q:Int) (r:List D×Int)
def Qu.ok(cf:Cf)(mf:Mf):Qu→Prop
 | .c f a r=>cf f a=some r
 | .m f g ds q r=>mf f g ds q=some r
abbrev Asked:=List Qu
def Told(cf:Cf)(mf:Mf)(L:Asked):Prop:=∀t∈L,t.ok cf mf
theorem Told.nil{cf:Cf}{mf:Mf}:Told cf mf []:=fun _ h=>by simp at h
theorem Told.left{cf:Cf}{mf:Mf}{L M:Asked}(h:Told cf mf (L++M)):Told cf mf L:=fun t ht=>h t (by simp[ht])
theorem Told.right{cf:Cf}{mf:Mf}{L M:Asked}(h:Told cf mf (L++M)):Told cf mf M:=fun t ht=>h t (by simp[ht])
theorem Told.append{cf:Cf}{mf:Mf}{L M:Asked}(h:Told cf mf L)(h':Told cf mf M):Told cf mf (L++M):=fun t ht=>by
 rcases List.mem_append.1 ht with ht|ht
 ·exact h t ht
 ·exact h' t ht
section
variable {cf:Cf} {mf:Mf}
theorem evN_dep{s s':St}{d:Option Nat}{o:KO}(he:evN cf mf s d o=some s'):∃L,Told cf mf L∧∀(cf':Cf) (mf':Mf),Told cf' mf' L→evN cf' mf' s d o=some s':=by
 cases o with
 |call f xs=>
  simp only[evN,evCall]at he
  split at he
  ·cases he
  ·rename_i as has
   split at he
   ·rename_i hc
    split at he
    ·cases he
    ·rename_i rs outs hcf;refine⟨[.c f as (rs,outs)],fun t ht=>by simp at ht;subst ht;exact hcf,fun cf' mf' h=>?_⟩;have h1:cf' f as=some (rs,outs):=h (.c f as (rs,outs)) (by simp);simp only[evN,evCall,has,hc,if_true,h1];exact he
   ·cases he
 |mrk f x y=>
  simp only[evN]at he
  split at he
  ·rename_i d0 q hq
   split at he
   ·rename_i ds hds
    split at he
    ·rename_i hnd
     split at he
     ·rename_i ds' q' hm;refine⟨[.m f (evX s x).isAgg ds q (ds',q')],fun t ht=>by simp at ht;subst ht;exact hm,fun cf' mf' h=>?_⟩;have h1:mf' f (evX s x).isAgg ds q=some (ds',q'):=h (.m f (evX s x).isAgg ds q (ds',q')) (by simp);simp only[evN,hq,hds,hnd,if_true,h1];exact he
     ·cases he
    ·cases he
   ·cases he
  ·cases he
 |_=>exact⟨[],Told.nil,fun cf' mf' _=>he⟩
theorem evO_dep{s s':St}{d:Option Nat}{o:KO}(he:evO cf mf s d o=some s'):∃L,Told cf mf L∧∀(cf':Cf) (mf':Mf),Told cf' mf' L→evO cf' mf' s d o=some s':=by
 unfold evO at he
 split at he
 ·rename_i hp;exact⟨[],Told.nil,fun cf' mf' _=>by simp only[evO,hp,if_true];exact he⟩
 ·rename_i hp;obtain⟨L,h1,h2⟩:=evN_dep he;exact⟨L,h1,fun cf' mf' h=>by simp only[evO,hp];exact h2 cf' mf' h⟩
theorem evI_dep{s s':St}{i:KI}(he:evI cf mf s i=some s'):∃L,Told cf mf L∧∀(cf':Cf) (mf':Mf),Told cf' mf' L→evI cf' mf' s i=some s':=by
 unfold evI at he ⊢
 split at he
 ·exact evO_dep he
 ·split at he
  ·split at he
   ·obtain⟨L,h1,h2⟩:=evO_dep he;exact⟨L,h1,fun cf' mf' h=>by simp_all⟩
   ·exact⟨[],Told.nil,fun cf' mf' _=>by simp_all⟩
  ·exact⟨[],Told.nil,fun cf' mf' _=>by simp_all⟩
  ·cases he
theorem evOps_dep:∀(is:List KI) {s s':St},evOps cf mf is s=some s'→∃L,Told cf mf L∧∀(cf':Cf) (mf':Mf),Told cf' mf' L→evOps cf' mf' is s=some s'
 |[],s,s',he=>⟨[],Told.nil,fun cf' mf' _=>he⟩
 |i::is,s,s',he=>by
  simp only[evOps]at he
  split at he
  ·rename_i s1 h1;obtain⟨L,a1,a2⟩:=evI_dep h1;obtain⟨M,b1,b2⟩:=evOps_dep is he;exact⟨L++M,a1.append b1,fun cf' mf' h=>by simp only[evOps,a2 cf' mf' h.left,b2 cf' mf' h.right]⟩
  ·cases he
theorem evDs_dep:∀(is:KT) {kp:Keep} {tk:List (List Nat×Nat)} {s s':St},evDs cf mf kp is tk s=some s'→∃L,Told cf mf L∧∀(cf':Cf) (mf':Mf),Told cf' mf' L→evDs cf' mf' kp is tk s=some s'
 | .nil,kp,tk,s,s',he=>⟨[],Told.nil,fun cf' mf' _=>he⟩
 | .op ⟨j,q,al,dn,i⟩ is,kp,tk,s,s',he=>by
  simp only[evDs]at he;cases q with
  |true=>
   simp only[if_true]at he
   split at he
   ·rename_i hg
    split at he
    ·rename_i c b hc hb;obtain⟨L,a1,a2⟩:=evDs_dep is he;exact⟨L,a1,fun cf' mf' h=>by simp only[evDs,if_true,hg,hc,hb];exact a2 cf' mf' h⟩
    ·cases he
   ·rename_i g want hg
    split at he
    ·rename_i b hgb
     split at he
     ·rename_i hbw
      split at he
      ·rename_i c b' hc hb;obtain⟨L,a1,a2⟩:=evDs_dep is he;exact⟨L,a1,fun cf' mf' h=>by simp only[evDs,if_true,hg,hgb,hbw,hc,hb];exact a2 cf' mf' h⟩
      ·cases he
     ·rename_i hbw;obtain⟨L,a1,a2⟩:=evDs_dep is he;exact⟨L,a1,fun cf' mf' h=>by simp only[evDs,if_true,hg,hgb,hbw,if_false];exact a2 cf' mf' h⟩
    ·rename_i hgu;obtain⟨L,a1,a2⟩:=evDs_dep is he;exact⟨L,a1,fun cf' mf' h=>by simp only[evDs,if_true,hg,hgu];exact a2 cf' mf' h⟩
    ·cases he
  |false=>
   simp only[stepN,Bool.false_eq_true,if_false]at he
   split at he
   ·rename_i s1 h1
    split at he
    ·rename_i hall;obtain⟨L,a1,a2⟩:=evI_dep h1;obtain⟨M,b1,b2⟩:=evDs_dep is he;exact⟨L++M,a1.append b1,fun cf' mf' h=>by simp only[evDs,stepN,Bool.false_eq_true,if_false,a2 cf' mf' h.left,hall,if_true];exact b2 cf' mf' h.right⟩
    ·cases he
   ·cases he
 | .alt x is r,kp,tk,s,s',he=>by
  have hee:stepN cf mf x tk s (evDs cf mf kp is)=some s'∧evDs cf mf kp r tk s=some s':=by
   simp only[evDs,both]at he
   split at he
   ·rename_i a b ha hb'
    split at he
    ·rename_i hab;subst hab;cases he;exact⟨ha,hb'⟩
    ·cases he
   ·cases he
  obtain⟨he,her⟩:=hee;obtain⟨R,r1,r2⟩:=evDs_dep r her;simp only[stepN]at he
  split at he
  ·rename_i s1 h1
   split at he
   ·rename_i hall;obtain⟨L,a1,a2⟩:=evI_dep h1;obtain⟨M,b1,b2⟩:=evDs_dep is he;refine⟨(L++M)++R,(a1.append b1).append r1,fun cf' mf' h=>?_⟩;simp only[evDs,stepN,a2 cf' mf' h.left.left,hall,if_true,b2 cf' mf' h.left.right,r2 cf' mf' h.right,both]
   ·cases he
  ·cases he
theorem evC_dep:∀(k:K) {n:Nat} {s:St} {r:Ex×St},evC cf mf n k s=some r→∃L,Told cf mf L∧∀(cf':Cf) (mf':Mf) (n':Nat),Told cf' mf' L→n≤n'→evC cf' mf' n' k s=some r
 | .skip,n,s,r,he=>⟨[],Told.nil,fun cf' mf' n' _ _=>by simpa [evC] using he⟩
 | .reg is kp,n,s,r,he=>by
  simp only[evC]at he
  split at he
  ·rename_i s1 h1;obtain⟨L,a1,a2⟩:=evOps_dep is h1;exact⟨L,a1,fun cf' mf' n' h _=>by simp only[evC,a2 cf' mf' h];exact he⟩
  ·cases he
 | .drw is kp,n,s,r,he=>by
  simp only[evC]at he
  split at he
  ·rename_i s1 h1;obtain⟨L,a1,a2⟩:=evDs_dep is h1;exact⟨L,a1,fun cf' mf' n' h _=>by simp only[evC,a2 cf' mf' h];exact he⟩
  ·cases he
 | .seq a b,n,s,r,he=>by
  simp only[evC]at he
  split at he
  ·rename_i s1 h1;obtain⟨L,a1,a2⟩:=evC_dep a h1;obtain⟨M,b1,b2⟩:=evC_dep b he;exact⟨L++M,a1.append b1,fun cf' mf' n' h hn=>by simp only[evC,a2 cf' mf' n' h.left hn];exact b2 cf' mf' n' h.right hn⟩
  ·rename_i hne;obtain⟨L,a1,a2⟩:=evC_dep a he;refine⟨L,a1,fun cf' mf' n' h hn=>?_⟩;simp only[evC,a2 cf' mf' n' h hn];obtain⟨e,s2⟩:=r;cases e with
   |norm=>exact absurd he (hne s2)
   |_=>rfl
 | .cond x a b,n,s,r,he=>by
  simp only[evC]at he
  split at he
  ·rename_i t ht;cases t with
   |true=>
    simp only[if_true]at he;obtain⟨L,a1,a2⟩:=evC_dep a he;exact⟨L,a1,fun cf' mf' n' h hn=>by simp only[evC,ht,if_true];exact a2 cf' mf' n' h hn⟩
   |false=>
    simp only[Bool.false_eq_true,if_false]at he;obtain⟨L,a1,a2⟩:=evC_dep b he;exact⟨L,a1,fun cf' mf' n' h hn=>by simp only[evC,ht,Bool.false_eq_true,if_false];exact a2 cf' mf' n' h hn⟩
  ·cases he
 | .block i a,n,s,r,he=>by
  simp only[evC]at he
  split at he
  ·rename_i i' s1 h1;obtain⟨L,a1,a2⟩:=evC_dep a h1;exact⟨L,a1,fun cf' mf' n' h hn=>by simp only[evC,a2 cf' mf' n' h hn];exact he⟩
  ·rename_i hne;obtain⟨L,a1,a2⟩:=evC_dep a he;refine⟨L,a1,fun cf' mf' n' h hn=>?_⟩;simp only[evC,a2 cf' mf' n' h hn];obtain⟨e,s2⟩:=r;cases e with
   |exit i=>exact absurd he (hne i s2)
   |_=>rfl
 | .loop a,n,s,r,he=>by
  simp only[evC]at he;have go:∀(m:Nat) (s:St),iter (evC cf mf n a) m s=some r→∃L,Told cf mf L∧∀(cf':Cf) (mf':Mf) (n' m':Nat),Told cf' mf' L→n≤n'→m≤m'→iter (evC cf' mf' n' a) m' s=some r:=by
   intro m
   induction m with
   |zero=>intro s h;simp[iter]at h
   |succ m ih=>
    intro s h;simp only[iter]at h
    split at h
    ·rename_i s1 h1;obtain⟨L,a1,a2⟩:=evC_dep a h1;obtain⟨M,b1,b2⟩:=ih s1 h;refine⟨L++M,a1.append b1,fun cf' mf' n' m' hT hn hm=>?_⟩;obtain⟨m'',rfl⟩:∃z,m'=z+1:=⟨m' - 1,by omega⟩
     simp only[iter,a2 cf' mf' n' hT.left hn];exact b2 cf' mf' n' m'' hT.right hn (by omega)
    ·rename_i hne;obtain⟨L,a1,a2⟩:=evC_dep a h;refine⟨L,a1,fun cf' mf' n' m' hT hn hm=>?_⟩;obtain⟨m'',rfl⟩:∃z,m'=z+1:=⟨m' - 1,by omega⟩
     simp only[iter,a2 cf' mf' n' hT hn];obtain⟨e,s2⟩:=r;cases e with
     |norm=>exact absurd h (hne s2)
     |_=>rfl
  obtain⟨L,a1,a2⟩:=go n s he;exact⟨L,a1,fun cf' mf' n' h hn=>by simp only[evC];exact a2 cf' mf' n' n' h hn hn⟩
 | .exit i,n,s,r,he=>⟨[],Told.nil,fun cf' mf' n' _ _=>by simpa [evC] using he⟩
 | .ret,n,s,r,he=>⟨[],Told.nil,fun cf' mf' n' _ _=>by simpa [evC] using he⟩
 | .share r0 a,n,s,r,he=>by
  simp only[evC]at he;obtain⟨L,a1,a2⟩:=evC_dep a he;exact⟨L,a1,fun cf' mf' n' h hn=>by simp only[evC];exact a2 cf' mf' n' h hn⟩
 | .dat d a,n,s,r,he=>by
  simp only[evC]at he
  split at he
  ·rename_i s' hd;obtain⟨L,a1,a2⟩:=evC_dep a he;exact⟨L,a1,fun cf' mf' n' h hn=>by simp only[evC,hd];exact a2 cf' mf' n' h hn⟩
  ·cases he
theorem runF_dep{n:Nat}{kf:KF}{args:List A}{r:List A×List A}(he:runF cf mf n kf args=some r):∃L,Told cf mf L∧∀(cf':Cf) (mf':Mf) (n':Nat),Told cf' mf' L→n≤n'→runF cf' mf' n' kf args=some r:=by
 unfold runF at he
 split at he
 ·rename_i hl
  split at he
  ·rename_i s h1;obtain⟨L,a1,a2⟩:=evC_dep kf.body h1;exact⟨L,a1,fun cf' mf' n' h hn=>by simp only[runF,hl,if_true,a2 cf' mf' n' h hn];exact he⟩
  ·rename_i s h1;obtain⟨L,a1,a2⟩:=evC_dep kf.body h1;exact⟨L,a1,fun cf' mf' n' h hn=>by simp only[runF,hl,if_true,a2 cf' mf' n' h hn];exact he⟩
  ·cases he
 ·cases he
end
section
variable {cf:Cf} {mf:Mf} {own:Bool} {k:Nat}
theorem evMp_dep{m m':MS}{d f:Nat}{xs:List KX}(he:evMp cf m d f xs=some m'):∃L,Told cf mf L∧∀(cf':Cf) (mf':Mf),Told cf' mf' L→evMp cf' m d f xs=some m':=by
 simp only[evMp]at he
 split at he
 ·rename_i as has
  split at he
  ·rename_i r hr;refine⟨[.c f as ([.val false [.d r]],[])],fun t ht=>by simp at ht;subst ht;exact hr,fun cf' mf' h=>?_⟩;have h1:cf' f as=_:=h (.c f as ([.val false [.d r]],[])) (by simp);simp only[evMp,has,h1];exact he
  ·cases he
 ·cases he
theorem evMm_dep{m m':MS}{d f:Nat}{c:MC}{y:C}(he:evMm mf m d f c y=some m'):∃L,Told cf mf L∧∀(cf':Cf) (mf':Mf),Told cf' mf' L→evMm mf' m d f c y=some m':=by
 unfold evMm at he
 split at he
 ·rename_i i o q
  split at he
  ·rename_i k fl es hes
   split at he
   ·rename_i x' q' hx;refine⟨[.m f false [.list k fl es] q ([x'],q')],fun t ht=>by simp at ht;subst ht;exact hx,fun cf' mf' h=>?_⟩;have h1:mf' f false [.list k fl es] q=_:=h (.m f false [.list k fl es] q ([x'],q')) (by simp);simp only[evMm,hes,h1];exact he
   ·cases he
  ·cases he
 ·rename_i i o n q
  split at he
  ·rename_i e hes
   split at he
   ·rename_i xs q' hx;refine⟨[.m f true ((e.drop o).take n) q (xs,q')],fun t ht=>by simp at ht;subst ht;exact hx,fun cf' mf' h=>?_⟩;have h1:mf' f true ((e.drop o).take n) q=_:=h (.m f true ((e.drop o).take n) q (xs,q')) (by simp);simp only[evMm,hes,h1];exact he
   ·cases he
  ·cases he
 ·cases he
theorem evM1_dep{m m':MS}{d:Nat}{o:KO}(he:evM1 cf mf k m d o=some m'):∃L,Told cf mf L∧∀(cf':Cf) (mf':Mf),Told cf' mf' L→evM1 cf' mf' k m d o=some m':=by
 cases o with
 |call f xs=>
  rcases xs with _|⟨x,_|⟨y,_|⟨z,xs⟩⟩⟩
  ·simp only[evM1]at he ⊢;exact evMp_dep he
  ·simp only[evM1]at he ⊢;exact evMp_dep he
  ·simp only[evM1]at he ⊢;cases hx:m.spx x with
   |none=>rw[hx]at he;exact evMp_dep he
   |some c=>rw[hx]at he;exact evMm_dep he
  ·simp only[evM1]at he ⊢;exact evMp_dep he
 |_=>exact⟨[],Told.nil,fun cf' mf' _=>he⟩
theorem evMI_dep{m m':MS}{i:KI}(he:evMI cf mf own k m i=some m'):∃L,Told cf mf L∧∀(cf':Cf) (mf':Mf),Told cf' mf' L→evMI cf' mf' own k m i=some m':=by
 obtain⟨d,o,g⟩:=i;cases g with
 |some g=>simp[evMI]at he
 |none=>
  cases d with
  |some d=>exact evM1_dep he
  |none=>exact⟨[],Told.nil,fun cf' mf' _=>he⟩
theorem evMs_dep:∀(is:List KI) {m m':MS},evMs cf mf own k is m=some m'→∃L,Told cf mf L∧∀(cf':Cf) (mf':Mf),Told cf' mf' L→evMs cf' mf' own k is m=some m'
 |[],m,m',he=>⟨[],Told.nil,fun cf' mf' _=>he⟩
 |i::is,m,m',he=>by
  simp only[evMs]at he
  split at he
  ·rename_i s1 h1;obtain⟨L,a1,a2⟩:=evMI_dep h1;obtain⟨M,b1,b2⟩:=evMs_dep is he;exact⟨L++M,a1.append b1,fun cf' mf' h=>by simp only[evMs,a2 cf' mf' h.left,b2 cf' mf' h.right]⟩
  ·cases he
theorem evMC_dep:∀(c:K) {n:Nat} {s:MS} {r:Ex×MS},evMC cf mf own k n c s=some r→∃L,Told cf mf L∧∀(cf':Cf) (mf':Mf) (n':Nat),Told cf' mf' L→n≤n'→evMC cf' mf' own k n' c s=some r
 | .skip,n,s,r,he=>⟨[],Told.nil,fun cf' mf' n' _ _=>by simpa [evMC] using he⟩
 | .reg is kp,n,s,r,he=>by
  simp only[evMC]at he
  split at he
  ·rename_i s1 h1;obtain⟨L,a1,a2⟩:=evMs_dep is h1;exact⟨L,a1,fun cf' mf' n' h _=>by simp only[evMC,a2 cf' mf' h];exact he⟩
  ·cases he
 | .drw is kp,n,s,r,he=>by simp[evMC]at he
 | .seq a b,n,s,r,he=>by
  simp only[evMC]at he
  split at he
  ·rename_i s1 h1;obtain⟨L,a1,a2⟩:=evMC_dep a h1;obtain⟨M,b1,b2⟩:=evMC_dep b he;exact⟨L++M,a1.append b1,fun cf' mf' n' h hn=>by simp only[evMC,a2 cf' mf' n' h.left hn];exact b2 cf' mf' n' h.right hn⟩
  ·rename_i hne;obtain⟨L,a1,a2⟩:=evMC_dep a he;refine⟨L,a1,fun cf' mf' n' h hn=>?_⟩;simp only[evMC,a2 cf' mf' n' h hn];obtain⟨e,s2⟩:=r;cases e with
   |norm=>exact absurd he (hne s2)
   |_=>rfl
 | .cond x a b,n,s,r,he=>by
  simp only[evMC]at he
  split at he
  ·rename_i t ht;cases t with
   |true=>
    simp only[if_true]at he;obtain⟨L,a1,a2⟩:=evMC_dep a he;exact⟨L,a1,fun cf' mf' n' h hn=>by simp only[evMC,ht,if_true];exact a2 cf' mf' n' h hn⟩
   |false=>
    simp only[Bool.false_eq_true,if_false]at he;obtain⟨L,a1,a2⟩:=evMC_dep b he;exact⟨L,a1,fun cf' mf' n' h hn=>by simp only[evMC,ht,Bool.false_eq_true,if_false];exact a2 cf' mf' n' h hn⟩
  ·cases he
 | .block i a,n,s,r,he=>by
  simp only[evMC]at he
  split at he
  ·rename_i i' s1 h1;obtain⟨L,a1,a2⟩:=evMC_dep a h1;exact⟨L,a1,fun cf' mf' n' h hn=>by simp only[evMC,a2 cf' mf' n' h hn];exact he⟩
  ·rename_i hne;obtain⟨L,a1,a2⟩:=evMC_dep a he;refine⟨L,a1,fun cf' mf' n' h hn=>?_⟩;simp only[evMC,a2 cf' mf' n' h hn];obtain⟨e,s2⟩:=r;cases e with
   |exit i=>exact absurd he (hne i s2)
   |_=>rfl
 | .loop a,n,s,r,he=>by
  simp only[evMC]at he;have go:∀(m:Nat) (s:MS),iterM (evMC cf mf own k n a) m s=some r→∃L,Told cf mf L∧∀(cf':Cf) (mf':Mf) (n' m':Nat),Told cf' mf' L→n≤n'→m≤m'→iterM (evMC cf' mf' own k n' a) m' s=some r:=by
   intro m
   induction m with
   |zero=>intro s h;simp[iterM]at h
   |succ m ih=>
    intro s h;simp only[iterM]at h
    split at h
    ·rename_i s1 h1;obtain⟨L,a1,a2⟩:=evMC_dep a h1;obtain⟨M,b1,b2⟩:=ih s1 h;refine⟨L++M,a1.append b1,fun cf' mf' n' m' hT hn hm=>?_⟩;obtain⟨m'',rfl⟩:∃z,m'=z+1:=⟨m' - 1,by omega⟩
     simp only[iterM,a2 cf' mf' n' hT.left hn];exact b2 cf' mf' n' m'' hT.right hn (by omega)
    ·rename_i hne;obtain⟨L,a1,a2⟩:=evMC_dep a h;refine⟨L,a1,fun cf' mf' n' m' hT hn hm=>?_⟩;obtain⟨m'',rfl⟩:∃z,m'=z+1:=⟨m' - 1,by omega⟩
     simp only[iterM,a2 cf' mf' n' hT hn];obtain⟨e,s2⟩:=r;cases e with
     |norm=>exact absurd h (hne s2)
     |_=>rfl
  obtain⟨L,a1,a2⟩:=go n s he;exact⟨L,a1,fun cf' mf' n' h hn=>by simp only[evMC];exact a2 cf' mf' n' n' h hn hn⟩
 | .exit i,n,s,r,he=>⟨[],Told.nil,fun cf' mf' n' _ _=>by simpa [evMC] using he⟩
 | .ret,n,s,r,he=>⟨[],Told.nil,fun cf' mf' n' _ _=>by simpa [evMC] using he⟩
 | .share r0 a,n,s,r,he=>by simp[evMC]at he
 | .dat d a,n,s,r,he=>by simp[evMC]at he
end
def Mono{α:Type}(g:Nat→Option α):Prop:=∀n m r,g n=some r→n≤m→g m=some r
open Classical in
noncomputable def lm{α:Type}(g:Nat→Option α):Option α:=if h:∃r n,g n=some r then some (Classical.choose h) else none
theorem lm_iff{α:Type}{g:Nat→Option α}(hg:Mono g)(r:α):lm g=some r↔∃n,g n=some r:=by
 unfold lm;split
 ·rename_i h;obtain⟨k,h1⟩:=Classical.choose_spec h
  constructor
  ·intro e;simp only[Option.some.injEq]at e;exact⟨k,e▸h1⟩
  ·rintro⟨n,hn⟩
   have e1:=hg _ (max n k) _ h1 (by omega);have e2:=hg _ (max n k) _ hn (by omega);rw[e1]at e2;exact e2
 ·rename_i h
  constructor
  ·intro e;cases e
  ·rintro⟨n,hn⟩;exact absurd ⟨r,n,hn⟩ h
theorem lm_eq{α:Type}{g:Nat→Option α}(hg:Mono g){o:Option α}(h1:∀r n,g n=some r→o=some r)(h2:∀r,o=some r→∃n,g n=some r):lm g=o:=by
 apply Option.ext
 intro r;rw[lm_iff hg];exact⟨fun⟨n,hn⟩=>h1 r n hn,h2 r⟩
section
variable (T:Nat→Option KF)
theorem evF_mono:∀(n n' f:Nat) (a:List A) (r:List A×List A),evF T n f a=some r→n≤n'→evF T n' f a=some r
 |0,_,_,_,_,h,_=>by simp[evF]at h
 |n+1,n',f,a,r,h,hn=>by
  obtain⟨m,rfl⟩:∃m,n'=m+1:=⟨n' - 1,by omega⟩
  simp only[evF]at h ⊢
  split at h
  ·cases h
  ·rename_i kf hkf
   split at h
   ·rename_i hx;rw[if_pos hx];exact h
   ·rename_i hx;rw[if_neg hx];obtain⟨L,a1,a2⟩:=runF_dep h;refine a2 (evF T m) _ m (fun t ht=>?_) (by omega);have:=a1 t ht;cases t with
    |c f a r=>exact evF_mono n m _ _ _ this (by omega)
    |m f g ds q r=>cases this
noncomputable def lim:Cf:=fun f a=>lm fun n=>evF T n f a
theorem lim_iff(f:Nat)(a:List A)(r:List A×List A):lim T f a=some r↔∃n,evF T n f a=some r:=lm_iff (fun n m r h hn=>evF_mono T n m f a r h hn) r
def outA1(cells:List D):Option (List (List D)×Int)→Option (List D×Int)
 |some ([cells'],q')=>some (cells',q')
 |_=>none
def outL1(k:Nat)(fl:Bool):Option (List (List D)×Int)→Option (List D×Int)
 |some (es',q')=>some ([.list k fl es'],q')
 |none=>none
def runM(g:Bool→Nat→List KI→MS→Option MS)(h:Bool→Nat→K→MS→Option (Ex×MS))(kf:KF)(ag:Bool)(cells:List D)(q:Int):Option (List D×Int):=
 match kf with
 |⟨2,body,[.t r]⟩=>
   if ag then (match body with
    | .seq (.reg (⟨some b,.box (.s 0),none⟩::is) kp) body'=>
     (match g false cells.length is (MS.putS ⟨⟨[(1,.d (.int .i64 q))],[],[]⟩,[],[cells]⟩ b (.ep 0 0)) with
     |some m=>outA1 cells (outM r (h false cells.length body' (m.keep kp)))
     |none=>none)
    |_=>none)
   else (match cells with
    |[.list k fl es]=>outL1 k fl (outM r (h true k body ⟨⟨[(1,.d (.int .i64 q))],[],[]⟩,[(0,.lst)],es⟩))
    |_=>none)
 |_=>none
theorem evM_run(n f:Nat)(ag:Bool)(cells:List D)(q:Int):evM T (n+1) f ag cells q=match T f with
  |some kf=>runM (fun own k=>evMs (evF T n) (evM T n) own k) (fun own k=>evMC (evF T n) (evM T n) own k n) kf ag cells q
  |none=>none:=by
 simp only[evM];cases hT:T f with
 |none=>rfl
 |some kf=>
  dsimp only;unfold runM;rcases kf with ⟨np,body,res⟩;dsimp only;split
  ·split
   ·split
    ·split
     ·rename_i m hm;simp only[outA1]
      split<;>simp_all
     ·simp_all
    ·simp_all
   ·split
    ·simp only[outL1]
     split<;>simp_all
    ·simp_all
  ·simp_all
end
end
section
theorem look_mem{α:Type}:∀(l:List (Nat×α)) {f:Nat} {x:α},look l f=some x→(f,x)∈l
 |[],_,_,h=>by simp[look]at h
 |(k,y)::l,f,x,h=>by
  simp only[look]at h
  split at h
  ·rename_i e;cases h;simp[e]
  ·exact List.mem_cons_of_mem _ (look_mem l h)
section
variable (T:Nat→Option KF)
theorem runM_dep{cf:Cf}{mf:Mf}{n:Nat}{kf:KF}{ag:Bool}{cells:List D}{q:Int}{r:List D×Int}(he:runM (fun own k=>evMs cf mf own k) (fun own k=>evMC cf mf own k n) kf ag cells q=some r) :
  ∃L,Told cf mf L∧∀(cf':Cf) (mf':Mf) (n':Nat),Told cf' mf' L→n≤n'→runM (fun own k=>evMs cf' mf' own k) (fun own k=>evMC cf' mf' own k n') kf ag cells q=some r:=by
 unfold runM at he
 split at he
 ·rename_i body r0
  split at he
  ·rename_i hag
   split at he
   ·rename_i b is kp body'
    split at he
    ·rename_i m hm;dsimp only at hm he;obtain⟨L,a1,a2⟩:=evMs_dep is hm;cases hx:evMC cf mf false cells.length n body' (m.keep kp) with
     |none=>rw[hx]at he;simp[outM,outA1]at he
     |some e=>
      obtain⟨M,b1,b2⟩:=evMC_dep body' hx;refine⟨L++M,a1.append b1,fun cf' mf' n' h hn=>?_⟩;simp only[runM,hag,if_true,a2 cf' mf' h.left,b2 cf' mf' n' h.right hn];rw[hx]at he;exact he
    ·cases he
   ·cases he
  ·rename_i hag
   split at he
   ·rename_i k fl es;dsimp only at he;cases hx:evMC cf mf true k n body ⟨⟨[(1,.d (.int .i64 q))],[],[]⟩,[(0,.lst)],es⟩ with
    |none=>rw[hx]at he;simp[outM,outL1]at he
    |some e=>
     obtain⟨M,b1,b2⟩:=evMC_dep body hx;refine⟨M,b1,fun cf' mf' n' h hn=>?_⟩;simp only[runM,hag,b2 cf' mf' n' h hn];rw[hx]at he;simp only[Bool.false_eq_true,if_false];exact he
   ·cases he
 ·cases he
theorem evM_mono:∀(n n' f:Nat) (ag:Bool) (ds:List D) (q:Int) (r:List D×Int),evM T n f ag ds q=some r→n≤n'→evM T n' f ag ds q=some r
 |0,_,_,_,_,_,_,h,_=>by simp[evM]at h
 |n+1,n',f,ag,ds,q,r,h,hn=>by
  obtain⟨m,rfl⟩:∃m,n'=m+1:=⟨n' - 1,by omega⟩
  rw[evM_run]at h ⊢
  split at h
  ·obtain⟨L,a1,a2⟩:=runM_dep h;refine a2 (evF T m) (evM T m) m (fun t ht=>?_) (by omega);have:=a1 t ht;cases t with
   |c f a r=>exact evF_mono T n m _ _ _ this (by omega)
   |m f g ds q r=>exact evM_mono n m _ _ _ _ _ this (by omega)
  ·cases h
noncomputable def limM:Mf:=fun f ag ds q=>lm fun n=>evM T n f ag ds q
theorem limM_iff(f:Nat)(ag:Bool)(ds:List D)(q:Int)(r:List D×Int):limM T f ag ds q=some r↔∃n,evM T n f ag ds q=some r:=lm_iff (fun n m r h hn=>evM_mono T n m f ag ds q r h hn) r
theorem told_lim:∀(L:Asked),Told (lim T) (limM T) L→∃n,∀m,n≤m→Told (evF T m) (evM T m) L
 |[],_=>⟨0,fun m _ t ht=>by simp at ht⟩
 |t::L,h=>by
  obtain⟨n,hn⟩:=told_lim L (fun t ht=>h t (by simp[ht]));have h1:=h t (by simp);cases t with
  |c f a r=>
   obtain⟨m,hm⟩:=(lim_iff T _ _ _).1 h1;refine⟨max n m,fun z hz u hu=>?_⟩;rcases List.mem_cons.1 hu with rfl|hu
   ·exact evF_mono T m z _ _ _ hm (by omega)
   ·exact hn z (by omega) u hu
  |m f g ds q r=>
   obtain⟨m,hm⟩:=(limM_iff T _ _ _ _ _).1 h1;refine⟨max n m,fun z hz u hu=>?_⟩;rcases List.mem_cons.1 hu with rfl|hu
   ·exact evM_mono T m z _ _ _ _ _ hm (by omega)
   ·exact hn z (by omega) u hu
abbrev mf0:Mf:=fun _ _ _ _=>none
noncomputable def ev(mf:Mf)(k:K)(s:St):Option (Ex×St):=lm fun n=>evC (lim T) mf n k s
theorem evC_mono(mf:Mf)(k:K)(s:St):∀n m r,evC (lim T) mf n k s=some r→n≤m→evC (lim T) mf m k s=some r:=fun n m r h hn=>by
 obtain⟨L,a1,a2⟩:=evC_dep k h;exact a2 _ _ m a1 hn
theorem ev_iff(mf:Mf)(k:K)(s:St)(r:Ex×St):ev T mf k s=some r↔∃n,evC (lim T) mf n k s=some r:=lm_iff (evC_mono T mf k s) r
section
variable (mf:Mf)
theorem ev_eq{k:K}{s:St}{o:Option (Ex×St)}(h1:∀r n,evC (lim T) mf n k s=some r→o=some r)(h2:∀r,o=some r→∃n,evC (lim T) mf n k s=some r):ev T mf k s=o:=lm_eq (evC_mono T mf k s) h1 h2
theorem ev_const{k:K}{s:St}{o:Option (Ex×St)}(h:∀n,evC (lim T) mf n k s=o):ev T mf k s=o:=
 ev_eq T mf (fun r n e=>by rw[← h n];exact e) (fun r e=>⟨0,by rw[h 0];exact e⟩)
theorem ev_skip(s:St):ev T mf .skip s=some (.norm,s):=ev_const T mf fun n=>by simp[evC]
theorem ev_ret(s:St):ev T mf .ret s=some (.ret,s):=ev_const T mf fun n=>by simp[evC]
theorem ev_exit(i:Nat)(s:St):ev T mf (.exit i) s=some (.exit i,s):=ev_const T mf fun n=>by simp[evC]
def nrm(kp:Keep):Option St→Option (Ex×St)
 |some s=>some (.norm,s.keep kp)
 |none=>none
theorem ev_reg(ops:List KI)(kp:Keep)(s:St):ev T mf (.reg ops kp) s=nrm kp (evOps (lim T) mf ops s):=ev_const T mf fun n=>by simp only[evC,nrm];split<;>simp_all
def nrd:Option St→Option (Ex×St)
 |some s=>some (.norm,s)
 |none=>none
theorem ev_drw(ops:KT)(kp:Keep)(s:St):ev T mf (.drw ops kp) s=nrd (evDs (lim T) mf kp ops [] s):=ev_const T mf fun n=>by simp only[evC,nrd];split<;>simp_all
def thn(g:St→Option (Ex×St)):Option (Ex×St)→Option (Ex×St)
 |some (.norm,s)=>g s
 |some (.exit i,s)=>some (.exit i,s)
 |some (.ret,s)=>some (.ret,s)
 |none=>none
theorem evC_seq{cf:Cf}(n:Nat)(a b:K)(s:St):evC cf mf n (.seq a b) s=thn (evC cf mf n b) (evC cf mf n a s):=by
 simp only[evC,thn];split
 ·rename_i h;simp only[h]
 ·rename_i h;split
  ·rename_i s' h';exact absurd h' (h s')
  ·simp_all
  ·simp_all
  ·simp_all
theorem ev_seq(a b:K)(s:St):ev T mf (.seq a b) s=thn (ev T mf b) (ev T mf a s):=by
 apply ev_eq
 ·intro r n h;rw[evC_seq]at h;cases ha:evC (lim T) mf n a s with
  |none=>rw[ha]at h;simp[thn]at h
  |some x=>
   rw[(ev_iff T mf a s x).2 ⟨n,ha⟩];rw[ha]at h;rcases x with ⟨_|i|_,s'⟩
   ·exact (ev_iff T mf b s' r).2 ⟨n,h⟩
   ·exact h
   ·exact h
 ·intro r h;cases ha:ev T mf a s with
  |none=>rw[ha]at h;simp[thn]at h
  |some x=>
   obtain⟨n,hn⟩:=(ev_iff T mf a s x).1 ha;rw[ha]at h;rcases x with ⟨_|i|_,s'⟩
   ·obtain⟨m,hm⟩:=(ev_iff T mf b s' r).1 h;refine⟨max n m,?_⟩;rw[evC_seq,evC_mono T mf a s n (max n m) _ hn (by omega)];exact evC_mono T mf b s' m (max n m) _ hm (by omega)
   ·exact⟨n,by rw[evC_seq,hn];exact h⟩
   ·exact⟨n,by rw[evC_seq,hn];exact h⟩
theorem ev_loop(a:K)(s:St):ev T mf (.loop a) s=thn (ev T mf (.loop a)) (ev T mf a s):=by
 have one:∀(cf:Cf) n m s,iter (evC cf mf n a) (m+1) s=thn (iter (evC cf mf n a) m) (evC cf mf n a s):=by
  intro cf n m s;simp only[iter,thn];split
  ·rename_i h;simp only[h]
  ·rename_i h;split
   ·rename_i s' h';exact absurd h' (h s')
   ·simp_all
   ·simp_all
   ·simp_all
 apply ev_eq
 ·intro r n h;simp only[evC]at h;cases n with
  |zero=>simp[iter]at h
  |succ n=>
   rw[one]at h;cases ha:evC (lim T) mf (n+1) a s with
   |none=>rw[ha]at h;simp[thn]at h
   |some x=>
    rw[(ev_iff T mf a s x).2 ⟨n+1,ha⟩];rw[ha]at h;rcases x with ⟨_|i|_,s'⟩
    ·refine (ev_iff T mf (.loop a) s' r).2 ⟨n+1,?_⟩;simp only[thn]at h;have:evC (lim T) mf (n+1) (.loop a) s'=some r:=by
      simp only[evC];have go:∀(m:Nat) (s:St),iter (evC (lim T) mf (n+1) a) m s=some r→iter (evC (lim T) mf (n+1) a) (m+1) s=some r:=by
       intro m
       induction m with
       |zero=>intro s h;simp[iter]at h
       |succ m ih=>
        intro s h;rw[one]at h ⊢;cases hb:evC (lim T) mf (n+1) a s with
        |none=>rw[hb]at h;simp[thn]at h
        |some x=>
         rw[hb]at h;rcases x with ⟨_|i|_,s'⟩
         ·exact ih s' h
         ·exact h
         ·exact h
      exact go n s' h
     exact this
    ·exact h
    ·exact h
 ·intro r h;cases ha:ev T mf a s with
  |none=>rw[ha]at h;simp[thn]at h
  |some x=>
   obtain⟨n,hn⟩:=(ev_iff T mf a s x).1 ha;rw[ha]at h;rcases x with ⟨_|i|_,s'⟩
   ·obtain⟨m,hm⟩:=(ev_iff T mf (.loop a) s' r).1 h;refine⟨max n m+1,?_⟩;have h2:=evC_mono T mf (.loop a) s' m (max n m) _ hm (by omega);simp only[evC]at h2 ⊢;rw[one,evC_mono T mf a s n (max n m+1) _ hn (by omega)];simp only[thn];have go:∀(z:Nat) (s:St),iter (evC (lim T) mf (max n m) a) z s=some r→iter (evC (lim T) mf (max n m+1) a) z s=some r:=by
     intro z
     induction z with
     |zero=>intro s h;simp[iter]at h
     |succ z ih=>
      intro s h;rw[one]at h ⊢;cases hb:evC (lim T) mf (max n m) a s with
      |none=>rw[hb]at h;simp[thn]at h
      |some x=>
       rw[hb]at h;rw[evC_mono T mf a s (max n m) (max n m+1) x hb (by omega)];rcases x with ⟨_|i|_,s'⟩
       ·exact ih s' h
       ·exact h
       ·exact h
    exact go _ _ h2
   ·refine⟨n+1,?_⟩;simp only[evC];rw[one,evC_mono T mf a s n (n+1) _ hn (by omega)];exact h
   ·refine⟨n+1,?_⟩;simp only[evC];rw[one,evC_mono T mf a s n (n+1) _ hn (by omega)];exact h
def ife(c:C)(x y:Option (Ex×St)):Option (Ex×St):=
 match c with
 | .d (.bool t)=>if t then x else y
 |_=>none
theorem evC_cond{cf:Cf}(n:Nat)(c:KX)(a b:K)(s:St):evC cf mf n (.cond c a b) s=ife (evX s c) (evC cf mf n a s) (evC cf mf n b s):=by
 simp only[evC,ife];cases evX s c<;>rfl
theorem ev_cond(c:KX)(a b:K)(s:St):ev T mf (.cond c a b) s=ife (evX s c) (ev T mf a s) (ev T mf b s):=by
 apply ev_eq
 ·intro r n h;rw[evC_cond]at h;unfold ife at h ⊢
  split at h
  ·split at h
   ·rename_i ht;simp only[ht,if_true];exact (ev_iff T mf _ _ _).2 ⟨n,h⟩
   ·rename_i ht;simp only[ht];exact (ev_iff T mf _ _ _).2 ⟨n,h⟩
  ·cases h
 ·intro r h;unfold ife at h
  split at h
  ·rename_i t hc;cases t with
   |true=>obtain⟨n,hn⟩:=(ev_iff T mf _ _ _).1 h;exact⟨n,by rw[evC_cond,hc];exact hn⟩
   |false=>obtain⟨n,hn⟩:=(ev_iff T mf _ _ _).1 h;exact⟨n,by rw[evC_cond,hc];exact hn⟩
  ·cases h
def blk(id:Nat):Option (Ex×St)→Option (Ex×St)
 |some (.norm,s)=>some (.norm,s)
 |some (.exit i,s)=>if i=id then some (.norm,s) else some (.exit i,s)
 |some (.ret,s)=>some (.ret,s)
 |none=>none
theorem evC_block{cf:Cf}(n:Nat)(i:Nat)(a:K)(s:St):evC cf mf n (.block i a) s=blk i (evC cf mf n a s):=by
 simp only[evC,blk];split
 ·simp_all
 ·rename_i h;split
  ·simp_all
  ·rename_i j s' h';exact absurd h' (h j s')
  ·simp_all
  ·simp_all
theorem ev_block(i:Nat)(a:K)(s:St):ev T mf (.block i a) s=blk i (ev T mf a s):=by
 apply ev_eq
 ·intro r n h;rw[evC_block]at h;cases ha:evC (lim T) mf n a s with
  |none=>rw[ha]at h;simp[blk]at h
  |some x=>rw[(ev_iff T mf a s x).2 ⟨n,ha⟩];rw[ha]at h;exact h
 ·intro r h;cases ha:ev T mf a s with
  |none=>rw[ha]at h;simp[blk]at h
  |some x=>
   obtain⟨n,hn⟩:=(ev_iff T mf a s x).1 ha;rw[ha]at h;exact⟨n,by rw[evC_block,hn];exact h⟩
theorem ev_share(q:Nat)(a:K)(s:St):ev T mf (.share q a) s=ev T mf a (shareAll s [q]):=by
 apply ev_eq
 ·intro r n h;simp only[evC]at h;exact (ev_iff T mf _ _ _).2 ⟨n,h⟩
 ·intro r h;obtain⟨n,hn⟩:=(ev_iff T mf _ _ _).1 h;exact⟨n,by simp only[evC];exact hn⟩
theorem ev_dat(d:Nat)(a:K)(s:St):ev T mf (.dat d a) s=(datS s d).bind (ev T mf a):=by
 have h0:∀n,evC (lim T) mf n (.dat d a) s=(datS s d).bind (evC (lim T) mf n a):=by
  intro n;simp only[evC];cases datS s d<;>rfl
 apply ev_eq
 ·intro r n h;rw[h0]at h;cases hd:datS s d with
  |none=>rw[hd]at h;simp at h
  |some s'=>rw[hd]at h;exact (ev_iff T mf _ _ _).2 ⟨n,h⟩
 ·intro r h;cases hd:datS s d with
  |none=>rw[hd]at h;simp at h
  |some s'=>rw[hd]at h;obtain⟨n,hn⟩:=(ev_iff T mf _ _ _).1 h;exact⟨n,by rw[h0,hd];exact hn⟩
def fin(kf:KF)(args:List A):Option (Ex×St)→Option (List A×List A)
 |some (.norm,s)=>leave kf args s
 |some (.ret,s)=>leave kf args s
 |_=>none
noncomputable def run(kf:KF)(args:List A):Option (List A×List A):=if args.length=kf.np then fin kf args (ev T mf kf.body (enterAs 0 args ⟨[],[],[]⟩)) else none
theorem runF_fin(cf:Cf)(n:Nat)(kf:KF)(args:List A):runF cf mf n kf args=if args.length=kf.np then fin kf args (evC cf mf n kf.body (enterAs 0 args ⟨[],[],[]⟩)) else none:=by
 simp only[runF];split
 ·simp only[fin]
  split<;>simp_all
 ·rfl
theorem told_mf0{cf:Cf}{mf':Mf}{L:Asked}(h:Told cf mf0 L):Told cf mf' L:=fun t ht=>by
 have h1:=h t ht;cases t with
 |c f a r=>exact h1
 |m f g ds q r=>cases h1
theorem told_cf{cf:Cf}{mf:Mf}{L:Asked}(h:Told cf mf0 L)(hc:∀f a r,cf f a=some r→lim T f a=some r):Told (lim T) mf L:=fun t ht=>by
 have h1:=h t ht;cases t with
 |c f a r=>exact hc f a r h1
 |m f g ds q r=>cases h1
theorem lim_x{f:Nat}{b:K}{r:List KR}(hT:T f=some ⟨999,b,r⟩)(args:List A):lim T f args=XT f args:=by
 apply Option.ext
 intro r;rw[lim_iff]
 constructor
 ·rintro⟨n,hn⟩
  cases n with
  |zero=>simp[evF]at hn
  |succ n=>simpa only [evF,hT,if_true] using hn
 ·intro h;exact⟨1,by simpa only [evF,hT,if_true] using h⟩
theorem lim_run{f:Nat}{kf:KF}(hT:T f=some kf)(hx9:kf.np≠999)(args:List A):lim T f args=run T mf0 kf args:=by
 apply Option.ext
 intro r;rw[lim_iff]
 constructor
 ·rintro⟨n,hn⟩
  cases n with
  |zero=>simp[evF]at hn
  |succ n=>
   simp only[evF,hT,if_neg hx9]at hn;rw[runF_fin]at hn;unfold run
   split at hn
   ·rename_i hl;rw[if_pos hl];cases hx:evC (evF T n) mf0 n kf.body (enterAs 0 args ⟨[],[],[]⟩) with
    |none=>rw[hx]at hn;simp[fin]at hn
    |some x=>
     obtain⟨L,a1,a2⟩:=evC_dep _ hx;have h2:=a2 (lim T) mf0 n (told_cf T a1 (fun f a r h=>(lim_iff T f a r).2 ⟨n,h⟩)) (by omega);rw[(ev_iff T mf0 _ _ _).2 ⟨n,h2⟩,← hx];exact hn
   ·cases hn
 ·intro h;unfold run at h
  split at h
  ·rename_i hl;cases hx:ev T mf0 kf.body (enterAs 0 args ⟨[],[],[]⟩) with
   |none=>rw[hx]at h;simp[fin]at h
   |some x=>
    obtain⟨n,hn⟩:=(ev_iff T mf0 _ _ _).1 hx;obtain⟨L,a1,a2⟩:=evC_dep _ hn;obtain⟨m,hm⟩:=told_lim T L (told_mf0 a1);refine⟨max n m+1,?_⟩;simp only[evF,hT,if_neg hx9];rw[runF_fin,if_pos hl,a2 (evF T (max n m)) mf0 (max n m) (fun t ht=>?_) (by omega),← hx]
    ·exact h
    ·have h1:=a1 t ht;have h2:=hm (max n m) (by omega) t ht;cases t with
     |c f a r=>exact h2
     |m f g ds q r=>cases h1
  ·cases h
end
variable (own:Bool) (k:Nat)
end
end
section
inductive SK where
 |int (k:IntKind) (n:Int)
 |bool (b:Bool)
 |str (s:ByteArray)
 |nil (k:Nat) (fl:Bool)
 deriving DecidableEq
def SK.d:SK→D
 | .int k n=>.int k n
 | .bool b=>.bool b
 | .str s=>.str s
 | .nil k fl=>.list k fl []
inductive SE where
 |v (i:Nat)
 |k (x:SK)
 |c (i j:Nat)
 deriving DecidableEq
def elC:D→Option (List D)
 | .list _ _ [cs]=>some cs
 |_=>none
def SE.d(ρ:List D):SE→Option D
 | .v i=>nth ρ i
 | .k x=>some x.d
 | .c i j=>match nth ρ i with
  |some x=>match elC x with
   |some cs=>nth cs j
   |none=>none
  |none=>none
abbrev Gs:=List (SE×Bool)
def gsO(ρ:List D):Gs→Option Bool
 |[]=>some true
 |(g,w)::gs=>match g.d ρ with
  |some (.bool b)=>if b=w then gsO ρ gs else some false
  |_=>none
inductive SB where
 |d (e:SE)
 |nil (k:Nat) (fl:Bool)
 |ref (r:Nat)
 |any
 deriving DecidableEq
inductive SC where
 |b (x:SB)
 |agg (xs:List SB)
 |tup (xs:List (SB ⊕ List SB))
 |ptr (b o:Nat)
 |ept (r k:Nat) (i:SE) (o:Nat)
 |dpt (i o:Nat)
 |any
 deriving DecidableEq
structure SG where
 gs:Gs
 c:SC
 deriving DecidableEq
structure SR where
 e:SE
 k:Nat
 fl:Bool
 deep:Bool
 app:Bool
 fz:Bool
 deriving DecidableEq
structure SS where
 sl:List (Nat×SG)
 bx:List (Nat×List SB)
 rw:List (Nat×SR)
 deriving DecidableEq
section
variable (ρ:List D)
def SBr:SB→C→Prop
 | .d e,c=>∃x,e.d ρ=some x∧c=.d x
 | .nil k fl,c=>c=.nil k fl
 | .ref r,c=>c=.ref r
 | .any,_=>True
def SBrs:List SB→List C→Prop
 |[],cs=>cs=[]
 |x::xs,cs=>∃c cs',cs=c::cs'∧SBr ρ x c∧SBrs xs cs'
def STr:List (SB ⊕ List SB)→List C→Prop
 |[],cs=>cs=[]
 | .inl x::xs,cs=>∃c cs',cs=c::cs'∧SBr ρ x c∧STr xs cs'
 | .inr l::xs,cs=>∃ds cs',cs=.agg ds::cs'∧SBrs ρ l ds∧STr xs cs'
def SCr:SC→C→Prop
 | .b x,c=>SBr ρ x c
 | .agg xs,c=>∃cs,c=.agg cs∧SBrs ρ xs cs
 | .tup xs,c=>∃cs,c=.tup cs∧STr ρ xs cs
 | .ptr b o,c=>c=.ptr b o
 | .ept r k i o,c=>∃n,i.d ρ=some (.int .i64 n)∧c=.ept r k n.toNat o
 | .dpt i o,c=>∃x cs,nth ρ i=some x∧elC x=some cs∧c=.dpt (cs.drop o)
 | .any,_=>True
def SGr(g:SG)(c:C):Prop:=∃b,gsO ρ g.gs=some b∧(b=true→SCr ρ g.c c)∧(b=false→c=.und)
def SRr(x:SR)(y:Row):Prop:=∃es,x.e.d ρ=some (.list x.k x.fl es)∧y=⟨es,x.k,x.fl,x.deep,x.app,x.fz⟩
structure Rel (S:SS) (s:St):Prop where
 sl:∀d g,look S.sl d=some g→SGr ρ g (s.get d)
 bx:∀b xs,look S.bx b=some xs→∃cs,look s.bx b=some cs∧SBrs ρ xs cs
 rw:∀r x,look S.rw r=some x→∃y,look s.rw r=some y∧SRr ρ x y
end
theorem nth_app{α:Type}:∀{l m:List α} {i:Nat} {x:α},nth l i=some x→nth (l++m) i=some x
 |_::_,_,0,_,h=>by simpa [nth] using h
 |_::l,m,i+1,x,h=>by simp only[List.cons_append,nth]at h ⊢;exact nth_app h
 |[],_,_,_,h=>by simp[nth]at h
theorem nth_new{α:Type}:∀(l:List α) (x:α) (m:List α),nth (l++x::m) l.length=some x
 |[],_,_=>rfl
 |_::l,x,m=>nth_new l x m
section
variable {ρ:List D} (τ:List D)
theorem SE.mono{e:SE}{x:D}(h:e.d ρ=some x):e.d (ρ++τ)=some x:=by
 cases e with
 |v i=>exact nth_app h
 |k y=>exact h
 |c i j=>
  simp only[SE.d]at h ⊢
  split at h
  ·rename_i y hy;rw[nth_app hy];exact h
  ·cases h
theorem gsO_mono:∀{gs:Gs} {b:Bool},gsO ρ gs=some b→gsO (ρ++τ) gs=some b
 |[],_,h=>h
 |(g,w)::gs,b,h=>by
  simp only[gsO]at h ⊢
  split at h
  ·rename_i t ht;rw[SE.mono τ ht];simp only
   split at h
   ·rename_i hw;rw[if_pos hw];exact gsO_mono h
   ·rename_i hw;rw[if_neg hw];exact h
  ·cases h
theorem SBr.mono:∀{x:SB} {c:C},SBr ρ x c→SBr (ρ++τ) x c
 | .d e,_,⟨x,h1,h2⟩=>⟨x,SE.mono τ h1,h2⟩
 | .nil _ _,_,h=>h
 | .ref _,_,h=>h
 | .any,_,_=>trivial
theorem SBrs.mono:∀{xs:List SB} {cs:List C},SBrs ρ xs cs→SBrs (ρ++τ) xs cs
 |[],_,h=>h
 |_::_,_,⟨c,cs',h1,h2,h3⟩=>⟨c,cs',h1,SBr.mono τ h2,SBrs.mono h3⟩
theorem STr.mono:∀{xs:List (SB ⊕ List SB)} {cs:List C},STr ρ xs cs→STr (ρ++τ) xs cs
 |[],_,h=>h
 | .inl _::_,_,⟨c,cs',h1,h2,h3⟩=>⟨c,cs',h1,SBr.mono τ h2,STr.mono h3⟩
 | .inr _::_,_,⟨c,cs',h1,h2,h3⟩=>⟨c,cs',h1,SBrs.mono τ h2,STr.mono h3⟩
theorem SCr.mono:∀{x:SC} {c:C},SCr ρ x c→SCr (ρ++τ) x c
 | .b _,_,h=>SBr.mono τ h
 | .agg _,_,⟨cs,h1,h2⟩=>⟨cs,h1,SBrs.mono τ h2⟩
 | .tup _,_,⟨cs,h1,h2⟩=>⟨cs,h1,STr.mono τ h2⟩
 | .ptr _ _,_,h=>h
 | .ept _ _ _ _,_,⟨n,h1,h2⟩=>⟨n,SE.mono τ h1,h2⟩
 | .dpt _ _,_,⟨x,cs,h1,h2,h3⟩=>⟨x,cs,nth_app h1,h2,h3⟩
 | .any,_,_=>trivial
theorem SGr.mono{g:SG}{c:C}:SGr ρ g c→SGr (ρ++τ) g c
 |⟨b,h1,h2,h3⟩=>⟨b,gsO_mono τ h1,fun h=>(h2 h).mono τ,h3⟩
theorem SRr.mono{x:SR}{y:Row}:SRr ρ x y→SRr (ρ++τ) x y
 |⟨es,h1,h2⟩=>⟨es,SE.mono τ h1,h2⟩
theorem Rel.mono{S:SS}{s:St}(h:Rel ρ S s):Rel (ρ++τ) S s:=
 ⟨fun d g hl=>(h.sl d g hl).mono τ,fun b xs hl=>(h.bx b xs hl).imp fun _ hc=>⟨hc.1,hc.2.mono τ⟩,fun r x hl=>(h.rw r x hl).imp fun _ hy=>⟨hy.1,hy.2.mono τ⟩⟩
end
def SB.kill(i:Nat):SB→SB
 | .ref r=>if r=i then .any else .ref r
 |x=>x
def SC.kill(i:Nat):SC→SC
 | .b x=>.b (x.kill i)
 | .agg xs=>.agg (xs.map (SB.kill i))
 | .tup xs=>.tup (xs.map fun | .inl x=>.inl (x.kill i) | .inr l=>.inr (l.map (SB.kill i)))
 | .ptr q o=>if q=i then .any else .ptr q o
 | .ept r k a o=>if r=i then .any else .ept r k a o
 |x=>x
def SS.kill(S:SS)(i:Nat):SS:=⟨S.sl.map fun p=>(p.1,⟨p.2.gs,p.2.c.kill i⟩),S.bx.map fun p=>(p.1,p.2.map (SB.kill i)),S.rw⟩
def SS.put(S:SS)(dst:Option Nat)(g:SG):SS:=
 match dst with
 |some d=>{S with sl:=(d,g)::S.sl }
 |none=>S
def SS.setBox(S:SS)(b:Nat)(xs:List SB):SS:={S with bx:=(b,xs)::drp S.bx b }
def SS.setRow(S:SS)(r:Nat)(x:SR):SS:={S with rw:=(r,x)::drp S.rw r }
def SS.dropRow(S:SS)(r:Nat):SS:={S with rw:=drp S.rw r }
def SS.newBox(S:SS)(b:Nat)(xs:List SB):SS:=(S.kill b).setBox b xs
def SS.newRow(S:SS)(r:Nat)(x:SR):SS:=(S.kill r).setRow r x
def SS.keep(S:SS)(kp:Keep):SS:=⟨keepL S.sl kp.s,keepL S.bx kp.b,keepL S.rw kp.r⟩
section
variable {ρ:List D}
theorem SBr.kill(i:Nat):∀{x:SB} {c:C},SBr ρ x c→SBr ρ (x.kill i) (c.kill i)
 | .d e,_,⟨x,h1,h2⟩=>by subst h2;exact⟨x,h1,rfl⟩
 | .nil _ _,_,h=>by simp only[SBr]at h;subst h;rfl
 | .ref r,_,h=>by
  simp only[SBr]at h;subst h;simp only[SB.kill,C.kill];split
  ·trivial
  ·rfl
 | .any,_,_=>trivial
theorem SBrs.kill(i:Nat):∀{xs:List SB} {cs:List C},SBrs ρ xs cs→SBrs ρ (xs.map (SB.kill i)) (C.kills i cs)
 |[],_,h=>by simp only[SBrs]at h;subst h;rfl
 |_::_,_,⟨c,cs',h1,h2,h3⟩=>by subst h1;exact⟨_,_,rfl,h2.kill i,SBrs.kill i h3⟩
theorem STr.kill(i:Nat):∀{xs:List (SB ⊕ List SB)} {cs:List C},STr ρ xs cs→STr ρ (xs.map fun | .inl x=>.inl (x.kill i) | .inr l=>.inr (l.map (SB.kill i))) (C.kills i cs)
 |[],_,h=>by simp only[STr]at h;subst h;rfl
 | .inl _::_,_,⟨c,cs',h1,h2,h3⟩=>by subst h1;exact⟨_,_,rfl,h2.kill i,STr.kill i h3⟩
 | .inr _::_,_,⟨ds,cs',h1,h2,h3⟩=>by subst h1;exact⟨_,_,rfl,h2.kill i,STr.kill i h3⟩
theorem SCr.kill(i:Nat):∀{x:SC} {c:C},SCr ρ x c→SCr ρ (x.kill i) (c.kill i)
 | .b _,_,h=>SBr.kill i h
 | .agg _,_,⟨cs,h1,h2⟩=>by subst h1;exact⟨_,rfl,h2.kill i⟩
 | .tup _,_,⟨cs,h1,h2⟩=>by subst h1;exact⟨_,rfl,h2.kill i⟩
 | .ptr b o,_,h=>by
  simp only[SCr]at h;subst h;simp only[SC.kill,C.kill];split
  ·trivial
  ·rfl
 | .ept r k a o,_,⟨n,h1,h2⟩=>by
  subst h2;simp only[SC.kill,C.kill];split
  ·trivial
  ·exact⟨n,h1,rfl⟩
 | .dpt _ _,_,⟨x,cs,h1,h2,h3⟩=>by subst h3;exact⟨x,cs,h1,h2,rfl⟩
 | .any,_,_=>trivial
theorem look_mapS{α β:Type}(f:α→β)(l:List (Nat×α))(d:Nat):look (l.map fun p=>(p.1,f p.2)) d=(look l d).map f:=by
 induction l with
 |nil=>rfl
 |cons p l ih=>
  obtain⟨k,x⟩:=p;simp only[List.map_cons,look,ih]
  split<;>rfl
theorem get_kill(s:St)(i d:Nat):(s.kill i).get d=(s.get d).kill i:=by
 simp only[St.get,St.kill,look_killS];cases look s.sl d<;>rfl
variable {S:SS} {s:St}
theorem Rel.kill(h:Rel ρ S s)(i:Nat):Rel ρ (S.kill i) (s.kill i) where
 sl d g hl:=by
  simp only[SS.kill]at hl;rw[look_mapS (fun g:SG=>(⟨g.gs,g.c.kill i⟩:SG)),Option.map_eq_some_iff]at hl;obtain⟨g',h1,rfl⟩:=hl;obtain⟨b,h2,h3,h4⟩:=h.sl d g' h1;rw[get_kill];exact⟨b,h2,fun hb=>(h3 hb).kill i,fun hb=>by rw[h4 hb];rfl⟩
 bx b xs hl:=by
  simp only[SS.kill]at hl;rw[look_mapS (fun xs:List SB=>xs.map (SB.kill i)),Option.map_eq_some_iff]at hl;obtain⟨xs',h1,rfl⟩:=hl;obtain⟨cs,h2,h3⟩:=h.bx b xs' h1;exact⟨_,by simp only[St.kill,look_killB,h2];rfl,h3.kill i⟩
 rw r x hl:=h.rw r x hl
theorem get_put(s:St)(d e:Nat)(c:C):(s.put (some d) c).get e=if d=e then c else s.get e:=by
 simp only[St.get,St.put,look]
 split<;>rfl
theorem Rel.put(h:Rel ρ S s)(dst:Option Nat){g:SG}{c:C}(hc:SGr ρ g c):Rel ρ (S.put dst g) (s.put dst c):=by
 cases dst with
 |none=>exact h
 |some d=>exact {
   sl:=fun e g' hl=>by
    simp only[SS.put,look]at hl;rw[get_put]
    split at hl
    ·rename_i he;cases hl;rw[if_pos he];exact hc
    ·rename_i he;rw[if_neg he];exact h.sl e g' hl
   bx:=h.bx
   rw:=h.rw }
theorem SGr.nil{c:SC}{x:C}(h:SCr ρ c x):SGr ρ ⟨[],c⟩ x:=⟨true,rfl,fun _=>h,fun h=>by cases h⟩
theorem Rel.setBox(h:Rel ρ S s)(b:Nat){xs:List SB}{cs:List C}(hc:SBrs ρ xs cs):Rel ρ (S.setBox b xs) (s.setBox b cs) where
 sl d g hl:=h.sl d g hl
 bx e ys hl:=by
  simp only[SS.setBox,look,St.setBox,look_drp]at hl ⊢
  split at hl
  ·rename_i he;cases hl;exact⟨cs,by rw[if_pos he],hc⟩
  ·rename_i he;rw[if_neg he,if_neg he];exact h.bx e ys hl
 rw r x hl:=h.rw r x hl
theorem Rel.setRow(h:Rel ρ S s)(r:Nat){x:SR}{y:Row}(hy:SRr ρ x y):Rel ρ (S.setRow r x) (s.setRow r y) where
 sl d g hl:=h.sl d g hl
 bx e ys hl:=h.bx e ys hl
 rw q z hl:=by
  simp only[SS.setRow,look,St.setRow,look_drp]at hl ⊢
  split at hl
  ·rename_i he;cases hl;exact⟨y,by rw[if_pos he],hy⟩
  ·rename_i he;rw[if_neg he,if_neg he];exact h.rw q z hl
theorem Rel.dropRow(h:Rel ρ S s)(r:Nat):Rel ρ (S.dropRow r) (s.dropRow r) where
 sl d g hl:=h.sl d g hl
 bx e ys hl:=h.bx e ys hl
 rw q z hl:=by
  simp only[SS.dropRow,St.dropRow,look_drp]at hl ⊢
  split at hl
  ·cases hl
  ·rename_i he;rw[if_neg he];exact h.rw q z hl
theorem Rel.newBox(h:Rel ρ S s)(b:Nat){xs:List SB}{cs:List C}(hc:SBrs ρ xs cs):Rel ρ (S.newBox b xs) (s.newBox b cs):=(h.kill b).setBox b hc
theorem Rel.newRow(h:Rel ρ S s)(r:Nat){x:SR}{y:Row}(hy:SRr ρ x y):Rel ρ (S.newRow r x) (s.newRow r y):=(h.kill r).setRow r hy
theorem keep_some{α:Type}(l:List (Nat×α)):∀(ds:List Nat) {e:Nat} {x:α},look (keepL l ds) e=some x→look l e=some x∧e∈ds
 |[],_,_,h=>by simp[keepL,look]at h
 |d::ds,e,x,h=>by
  unfold keepL at h;cases hd:look l d with
  |none=>rw[hd]at h;have:=keep_some l ds h;exact⟨this.1,List.mem_cons_of_mem _ this.2⟩
  |some y=>
   rw[hd]at h;simp only[look]at h
   split at h
   ·rename_i he;subst he;cases h;exact⟨hd,List.mem_cons_self⟩
   ·have:=keep_some l ds h;exact⟨this.1,List.mem_cons_of_mem _ this.2⟩
theorem keep_look{α:Type}(l:List (Nat×α)):∀(ds:List Nat) {e:Nat} {x:α},look l e=some x→e∈ds→look (keepL l ds) e=some x
 |[],_,_,_,h=>by cases h
 |d::ds,e,x,h,hm=>by
  unfold keepL;by_cases hd:d=e
  ·subst hd;rw[h];simp[look]
  ·have hm':e∈ds:=by
    rcases List.mem_cons.1 hm with h1|h1
    ·exact absurd h1.symm hd
    ·exact h1
   cases look l d with
   |none=>exact keep_look l ds h hm'
   |some y=>simp only[look,if_neg hd];exact keep_look l ds h hm'
theorem keep_get(s:St)(kp:Keep){d:Nat}(h:d∈kp.s):(s.keep kp).get d=s.get d:=by
 simp only[St.get,St.keep];cases hl:look s.sl d with
 |some x=>rw[keep_look _ _ hl h]
 |none=>
  cases hk:look (keepL s.sl kp.s) d with
  |none=>rfl
  |some x=>rw[(keep_some _ _ hk).1]at hl;cases hl
theorem Rel.keep(h:Rel ρ S s)(kp:Keep):Rel ρ (S.keep kp) (s.keep kp) where
 sl d g hl:=by
  obtain⟨h1,h2⟩:=keep_some _ _ hl;rw[keep_get s kp h2];exact h.sl d g h1
 bx b xs hl:=by
  obtain⟨h1,h2⟩:=keep_some _ _ hl;obtain⟨cs,h3,h4⟩:=h.bx b xs h1;exact⟨cs,keep_look _ _ h3 h2,h4⟩
 rw r x hl:=by
  obtain⟨h1,h2⟩:=keep_some _ _ hl;obtain⟨y,h3,h4⟩:=h.rw r x h1;exact⟨y,keep_look _ _ h3 h2,h4⟩
end
end
section
inductive PO where
 |cel (o:Nat)
 |has (n:Nat)
 |bin (op:BinOp)
 |bib (op:BinOp)
 |not
 |neg
 |conv (k:IntKind)
 |len
 |sln
 |min
 |max
 |six
 |el (k:Nat)
 |chk
 |eld (k o n:Nat) (deep:Bool)
 |ite
 |ssl (hi:Bool)
 |sl2 (k:Nat) (hi:Bool)
 |bts
 |mkl (k:Nat) (fl:Bool)
 |make (k by_:Nat) (fl:Bool) (zs:List SK)
 |app (k by_:Nat)
 |set (o:Nat)
 |cut (hi:Bool)
 |cpy
 |jnl
 |jnb
 |lst (k:Nat) (fl:Bool)
 |tru
 |pl
 |npl
 deriving DecidableEq
def dI:D→Option Nat
 | .int .i64 n=>if 0≤n then some n.toNat else none
 |_=>none
def chunk(k:Nat):Nat→List D→Option (List (List D))
 |0,[]=>some []
 |0,_=>none
 |m+1,xs=>if k≤xs.length then (chunk k m (xs.drop k)).map (xs.take k::·) else none
def asD:Option C→Option D
 |some (.d x)=>some x
 |_=>none
def evPO:PO→List D→Option D
 | .cel o,[x]=>match elC x with
  |some cs=>nth cs o
  |none=>none
 | .has n,[x]=>match elC x with
  |some cs=>if n≤cs.length then some (.bool false) else none
  |none=>none
 | .bin op,[x,y]=>asD (binD op (.d x) (.d y))
 | .bib op,[.bool a,.bool b]=>binB op a b
 | .not,[.bool b]=>some (.bool (!b))
 | .neg,[.int k a]=>some (.int k (k.wrap (-a)))
 | .conv k,[.int _ a]=>some (.int k (k.wrap a))
 | .len,[.list _ _ es]=>some (.int .i64 es.length)
 | .sln,[.str t]=>some (.int .i64 t.size)
 | .min,[.int .i64 a,.int .i64 b]=>some (.int .i64 (if b < a then b else a))
 | .max,[.int .i64 a,.int .i64 b]=>some (.int .i64 (if a < b then b else a))
 | .six,[.str t,.int .i64 n]=>if 0≤n∧n.toNat < t.size then some (.int .u8 (bAt t n.toNat)) else none
 | .el k,[.list k' _ es,.int .i64 n]=>if 0≤n∧k'=k then (nth es n.toNat).map fun e=>.list 0 false [e] else none
 | .chk,[.list _ _ es,.int .i64 n]=>if 0≤n∧n.toNat < es.length then some (.bool false) else none
 | .eld k o n deep,[.list k' _ es,.int .i64 i]=>match nth es i.toNat with
  |some e=>if k'=k∧o+n≤k∧o+n≤e.length∧(plains ((e.drop o).take n) ||!deep)=true then some (.list 0 false [e]) else none
  |none=>none
 | .ite,[.bool b,x,y]=>some (if b then x else y)
 | .ssl false,[.str t,lo]=>match dI lo with
  |some a=>if a≤t.size then some (.str (t.extract a t.size)) else none
  |none=>none
 | .ssl true,[.str t,lo,hi]=>match dI lo,dI hi with
  |some a,some b=>if a≤b∧b≤t.size then some (.str (t.extract a b)) else none
  |_,_=>none
 | .sl2 k false,[.list k' fl es,lo]=>match dI lo with
  |some a=>if k'=k∧a≤es.length then some (.list k' fl (es.drop a)) else none
  |none=>none
 | .sl2 k true,[.list k' fl es,lo,hi]=>match dI lo,dI hi with
  |some a,some b=>if k'=k∧a≤b∧b≤es.length then some (.list k' fl ((es.take b).drop a)) else none
  |_,_=>none
 | .bts,[.list 1 _ es]=>(bytesOf es).map fun xs=>.str ⟨(xs.map fun n=>UInt8.ofNat n.toNat).toArray⟩
 | .mkl k fl,xs=>if xs.length % k=0 then match chunk k (xs.length / k) xs with
   |some es=>if fl=true→es.all plains=true then some (.list k fl es) else none
   |none=>none
  else none
 | .make k by_ fl zs,[.int .i64 n]=>if 0≤n∧n.toNat * by_≤room∧n≤4611686018427387904 then some (.list k fl (List.replicate n.toNat (zs.map SK.d))) else none
 | .app k by_,[.list k1 f1 es,.list k2 f2 es']=>if k1=k∧k2=k∧f1=f2∧(es.length+es'.length) * by_≤room∧es.length+es'.length≤maxLen then some (.list k f1 (es++es')) else none
 | .set o,.list k fl es::.int .i64 i::ds=>match nth es i.toNat with
  |some e=>if o+ds.length≤k∧(fl=true→plains ds=true) then some (.list k fl (es.set i.toNat (splC e o ds))) else none
  |none=>none
 | .cut false,[.list k fl es,lo]=>match dI lo with
  |some a=>if a≤es.length then some (.list k fl (es.drop a)) else none
  |none=>none
 | .cut true,[.list k fl es,lo,hi]=>match dI lo,dI hi with
  |some a,some b=>if a≤b∧b≤es.length then some (.list k fl ((es.take b).drop a)) else none
  |_,_=>none
 | .cpy,[.list k fl es,.list k' fl' es']=>if k'=k∧fl'=true∧fl=true∧es'.length=es.length then some (.list k fl es') else none
 | .jnl,[.list k fl es,.list k' _ es']=>if k=1∧k'=1∧fl=true∧es'.length=es.length∧es'≠[] then (match bools es,bools es' with
   |some bs,some cs=>some (.list 1 true ((joinB bs cs).map fun b=>[D.bool b]))
   |_,_=>none) else none
 | .jnb,[.list _ _ es,.list _ _ es']=>match bools es,bools es' with
   |some bs,some cs=>some (.bool (grewB bs cs))
   |_,_=>none
 | .lst k fl,[.list k' fl' es]=>if k'=k∧fl'=fl then some (.list k fl es) else none
 | .tru,[.bool b]=>some (.bool b)
 | .pl,xs=>if plains xs=true then some (.bool false) else none
 | .npl,xs=>if plains xs=true then none else some (.bool false)
 |_,_=>none
def evE(ρ:List D):List SE→Option (List D)
 |[]=>some []
 |e::es=>match e.d ρ with
  |some x=>(evE ρ es).map (x::·)
  |none=>none
abbrev Bs:=List (PO×List SE)
def runB(ρ:List D):Bs→Option (List D)
 |[]=>some ρ
 |(o,es)::bs=>match evE ρ es with
  |some xs=>match evPO o xs with
   |some x=>runB (ρ++[x]) bs
   |none=>none
  |none=>none
def symX(S:SS)(gs:Gs):KX→Option SC
 | .s d=>match look S.sl d with
  |some g=>if g.gs.all (fun p=>decide (p∈gs)) then some g.c else none
  |none=>none
 | .k (.d (.int k n))=>some (.b (.d (.k (.int k n))))
 | .k (.d (.bool b))=>some (.b (.d (.k (.bool b))))
 | .k (.d (.str t))=>some (.b (.d (.k (.str t))))
 | .k (.nil k fl)=>some (.b (.nil k fl))
 |_=>none
def sD:Option SC→Option SE
 |some (.b (.d e))=>some e
 |_=>none
section
variable {ρ:List D} {S:SS} {s:St} {gs:Gs}
theorem gs_all:∀{gs:Gs},gsO ρ gs=some true→∀p∈gs,p.1.d ρ=some (.bool p.2)
 |[],_,_,hp=>by cases hp
 |(g,w)::gs,h,p,hp=>by
  simp only[gsO]at h
  split at h
  ·rename_i b hb
   split at h
   ·rename_i hw;subst hw;rcases List.mem_cons.1 hp with rfl|hp
    ·exact hb
    ·exact gs_all h p hp
   ·cases h
  ·cases h
theorem gs_of:∀{gs:Gs},(∀p∈gs,p.1.d ρ=some (.bool p.2))→gsO ρ gs=some true
 |[],_=>rfl
 |(g,w)::gs,h=>by
  have h1:=h (g,w) (by simp);simp only at h1
  simp only[gsO,h1,if_true];exact gs_of fun p hp=>h p (by simp[hp])
theorem gs_sub{gs gs':Gs}(h:gsO ρ gs=some true)(hs:gs'.all (fun p=>decide (p∈gs))=true):gsO ρ gs'=some true:=
 gs_of fun p hp=>gs_all h p (by simpa using List.all_eq_true.1 hs p hp)
theorem symX_rel(h:Rel ρ S s)(hg:gsO ρ gs=some true){x:KX}{c:SC}(hx:symX S gs x=some c):SCr ρ c (evX s x):=by
 unfold symX at hx
 split at hx
 ·rename_i d
  split at hx
  ·rename_i g hl
   split at hx
   ·rename_i hs;cases hx;obtain⟨b,h1,h2,_⟩:=h.sl d g hl;rw[gs_sub hg hs]at h1;cases h1;exact h2 rfl
   ·cases hx
  ·cases hx
 ·cases hx;exact⟨_,rfl,rfl⟩
 ·cases hx;exact⟨_,rfl,rfl⟩
 ·cases hx;exact⟨_,rfl,rfl⟩
 ·cases hx;rfl
 ·cases hx
theorem sD_rel(h:Rel ρ S s)(hg:gsO ρ gs=some true){x:KX}{e:SE}(hx:sD (symX S gs x)=some e):∃y,e.d ρ=some y∧evX s x=.d y:=by
 unfold sD at hx
 split at hx
 ·rename_i e' he;cases hx;exact symX_rel h hg he
 ·cases hx
theorem evE_one{e:SE}{xs:List D}(h:evE ρ [e]=some xs):∃x,e.d ρ=some x∧xs=[x]:=by
 simp only[evE]at h
 split at h
 ·rename_i x hx;simp only[Option.map_some,Option.some.injEq]at h;exact⟨x,hx,h.symm⟩
 ·cases h
theorem evE_cons{e:SE}{es:List SE}{xs:List D}(h:evE ρ (e::es)=some xs):∃x ys,e.d ρ=some x∧evE ρ es=some ys∧xs=x::ys:=by
 simp only[evE]at h
 split at h
 ·rename_i x hx;simp only[Option.map_eq_some_iff]at h;obtain⟨ys,h1,h2⟩:=h;exact⟨x,ys,hx,h1,h2.symm⟩
 ·cases h
theorem runB_one{o:PO}{es:List SE}{ρ':List D}(h:runB ρ [(o,es)]=some ρ'):∃xs x,evE ρ es=some xs∧evPO o xs=some x∧ρ'=ρ++[x]:=by
 simp only[runB]at h
 split at h
 ·rename_i xs hxs
  split at h
  ·rename_i x hx;cases h;exact⟨xs,x,hxs,hx,rfl⟩
  ·cases h
 ·cases h
theorem runB_ext:∀{bs:Bs} {ρ ρ':List D},runB ρ bs=some ρ'→∃τ,ρ'=ρ++τ
 |[],ρ,ρ',h=>by cases h;exact⟨[],by simp⟩
 |(o,es)::bs,ρ,ρ',h=>by
  simp only[runB]at h
  split at h
  ·split at h
   ·rename_i x hx;obtain⟨τ,h1⟩:=runB_ext h;exact⟨x::τ,by rw[h1];simp⟩
   ·cases h
  ·cases h
end
end
section
def SC.cells:SC→Option (List SB)
 | .b x=>some [x]
 | .agg xs=>some xs
 |_=>none
def SB.cell:SB→Bool
 | .any=>false
 |_=>true
def splS{α:Type}(l:List α)(o:Nat)(n:List α):List α:=l.take o++n++l.drop (o+n.length)
def constS:C→Option SB
 | .d (.int k n)=>some (.d (.k (.int k n)))
 | .d (.bool b)=>some (.d (.k (.bool b)))
 | .d (.str t)=>some (.d (.k (.str t)))
 | .nil k fl=>some (.nil k fl)
 |_=>none
def symFill(S:SS)(gs:Gs)(zs:List SB):List (Nat×Nat×KX)→Option (List SB)
 |[]=>some zs
 |(o,n,x)::ps=>match symX S gs x with
  |some c=>match c.cells with
   |some cs=>if cs.length=n∧o+n≤zs.length∧cs.all SB.cell=true then symFill S gs (splS zs o cs) ps else none
   |none=>none
  |none=>none
def cellsAt(i o:Nat):Nat→List SB
 |0=>[]
 |n+1=>.d (.c i o)::cellsAt i (o+1) n
def vN(n:Nat):SC:=.b (.d (.v n))
def op1(n:Nat)(o:PO):List (Option SE)→Option (Bs×SC)
 |[some a]=>some ([(o,[a])],vN n)
 |[some a,some b]=>some ([(o,[a,b])],vN n)
 |[some a,some b,some c]=>some ([(o,[a,b,c])],vN n)
 |_=>none
def boundS(S:SS)(gs:Gs):Option KX→Option SE
 |none=>some (.k (.int .i64 0))
 |some x=>sD (symX S gs x)
def symP(S:SS)(gs:Gs)(n:Nat):KO→Option (Bs×SC)
 | .mv x=>(symX S gs x).map fun c=>([],c)
 | .pick c x y=>match sD (symX S gs c) with
  |some e=>if (e,true)∈gs then (symX S gs x).map fun c=>([],c) else if (e,false)∈gs then (symX S gs y).map fun c=>([],c)
   else op1 n .ite [some e,sD (symX S ((e,true)::gs) x),sD (symX S ((e,false)::gs) y)]
  |none=>none
 | .build zs ps=>match mapO constS zs with
  |some zs'=>(symFill S gs zs' ps).map fun l=>([],.agg l)
  |none=>none
 | .ld m x=>match symX S gs x with
  |some (.ptr b o)=>match look S.bx b with
   |some xs=>if m=0 then (nth xs o).map fun y=>([],.b y) else if o+m≤xs.length then some ([],.agg ((xs.drop o).take m)) else none
   |none=>none
  |some (.dpt i o)=>if m=0 then some ([(.cel o,[.v i])],vN n) else some ([(.has (o+m),[.v i])],.agg (cellsAt i o m))
  |some (.ept r k i o)=>match look S.rw r with
   |some row=>if row.k=k then (if m=0 then some ([(.eld k o 1 row.deep,[row.e,i]),(.cel o,[.v n])],vN (n+1)) else some ([(.eld k o m row.deep,[row.e,i])],.agg (cellsAt n o m))) else none
   |none=>none
  |_=>none
 | .fa o x=>match symX S gs x with
  |some (.ptr b p)=>some ([],.ptr b (p+o))
  |some (.dpt i p)=>some ([],.dpt i (p+o))
  |some (.ept r k i p)=>some ([],.ept r k i (p+o))
  |_=>none
 | .ia k x i=>match symX S gs x,sD (symX S gs i) with
  |some (.b (.d e)),some j=>some ([(.el k,[e,j])],.dpt n 0)
  |some (.b (.ref r)),some j=>match look S.rw r with
   |some row=>if row.k=k then some ([(.chk,[row.e,j])],.ept r k j 0) else none
   |none=>none
  |_,_=>none
 | .six x i=>op1 n .six [sD (symX S gs x),sD (symX S gs i)]
 | .bin op x y=>op1 n (.bin op) [sD (symX S gs x),sD (symX S gs y)]
 | .bib op x y=>op1 n (.bib op) [sD (symX S gs x),sD (symX S gs y)]
 | .not x=>op1 n .not [sD (symX S gs x)]
 | .neg x=>op1 n .neg [sD (symX S gs x)]
 | .conv k x=>op1 n (.conv k) [sD (symX S gs x)]
 | .len x=>match symX S gs x with
  |some (.b (.d e))=>some ([(.len,[e])],vN n)
  |some (.b (.nil _ _))=>some ([],.b (.d (.k (.int .i64 0))))
  |some (.b (.ref r))=>match look S.rw r with
   |some row=>some ([(.len,[row.e])],vN n)
   |none=>none
  |_=>none
 | .sln x=>op1 n .sln [sD (symX S gs x)]
 | .min x y=>op1 n .min [sD (symX S gs x),sD (symX S gs y)]
 | .max x y=>op1 n .max [sD (symX S gs x),sD (symX S gs y)]
 | .ext x i=>match symX S gs x with
  |some (.tup xs)=>match nth xs i with
   |some (.inl y)=>some ([],.b y)
   |some (.inr l)=>some ([],.agg l)
   |none=>none
  |_=>none
 | .slc x hi=>op1 n (.cut true) [sD (symX S gs x),some (.k (.int .i64 0)),sD (symX S gs hi)]
 | .ssl x lo hi=>match hi with
  |none=>op1 n (.ssl false) [sD (symX S gs x),boundS S gs lo]
  |some h=>op1 n (.ssl true) [sD (symX S gs x),boundS S gs lo,sD (symX S gs h)]
 | .sl2 k x lo hi=>match hi with
  |none=>op1 n (.sl2 k false) [sD (symX S gs x),boundS S gs lo]
  |some h=>op1 n (.sl2 k true) [sD (symX S gs x),boundS S gs lo,sD (symX S gs h)]
 | .nck x=>match symX S gs x with
  |some (.ptr b o)=>some ([],.ptr b o)
  |some (.dpt i o)=>some ([],.dpt i o)
  |some (.ept r k i o)=>some ([],.ept r k i o)
  |_=>none
 | .bts x=>match symX S gs x with
  |some (.b (.ref r))=>match look S.rw r with
   |some row=>if row.k=1 then some ([(.bts,[row.e])],vN n) else none
   |none=>none
  |_=>none
 |_=>none
section
variable {ρ ρ':List D} {S:SS} {s:St} {gs:Gs} {bs:Bs} {c:SC}
theorem SBrs.nth:∀{xs:List SB} {cs:List C} {i:Nat} {x:SB},SBrs ρ xs cs→nth xs i=some x→∃c,nth cs i=some c∧SBr ρ x c
 |_::_,_,0,_,⟨c,_,h1,h2,_⟩,h=>by cases h;subst h1;exact⟨c,rfl,h2⟩
 |_::xs,_,i+1,_,⟨_,cs,h1,_,h3⟩,h=>by subst h1;exact SBrs.nth (xs:=xs) (i:=i) h3 h
 |[],_,_,_,_,h=>by cases h
theorem SBrs.len:∀{xs:List SB} {cs:List C},SBrs ρ xs cs→cs.length=xs.length
 |[],_,h=>by simp only[SBrs]at h;subst h;rfl
 |_::_,_,⟨_,_,h1,_,h3⟩=>by subst h1;simp[SBrs.len h3]
theorem SBrs.drop:∀(n:Nat) {xs:List SB} {cs:List C},SBrs ρ xs cs→SBrs ρ (xs.drop n) (cs.drop n)
 |0,_,_,h=>h
 |_+1,[],_,h=>by simp only[SBrs]at h;subst h;rfl
 |n+1,_::_,_,⟨_,_,h1,_,h3⟩=>by subst h1;exact SBrs.drop n h3
theorem SBrs.take:∀(n:Nat) {xs:List SB} {cs:List C},SBrs ρ xs cs→SBrs ρ (xs.take n) (cs.take n)
 |0,_,_,_=>rfl
 |_+1,[],_,h=>by simp only[SBrs]at h;subst h;rfl
 |n+1,_::_,_,⟨c,_,h1,h2,h3⟩=>by subst h1;exact⟨c,_,rfl,h2,SBrs.take n h3⟩
theorem SBrs.app:∀{xs ys:List SB} {cs ds:List C},SBrs ρ xs cs→SBrs ρ ys ds→SBrs ρ (xs++ys) (cs++ds)
 |[],_,_,_,h,h'=>by simp only[SBrs]at h;subst h;exact h'
 |_::_,_,_,_,⟨c,_,h1,h2,h3⟩,h'=>by subst h1;exact⟨c,_,rfl,h2,SBrs.app h3 h'⟩
theorem SBrs.spl(o:Nat){xs ys:List SB}{cs ds:List C}(h:SBrs ρ xs cs)(h':SBrs ρ ys ds):SBrs ρ (splS xs o ys) (splC cs o ds):=by
 unfold splS splC;rw[h'.len];exact ((h.take o).app h').app (h.drop _)
theorem SBr.cell{x:SB}{c:C}(h:SBr ρ x c)(hc:x.cell=true):c.cell=true:=by
 cases x with
 |d e=>obtain⟨y,_,rfl⟩:=h;rfl
 |nil k fl=>simp only[SBr]at h;subst h;rfl
 |ref r=>simp only[SBr]at h;subst h;rfl
 |any=>cases hc
theorem SBrs.cell:∀{xs:List SB} {cs:List C},SBrs ρ xs cs→xs.all SB.cell=true→cs.all C.cell=true
 |[],_,h,_=>by simp only[SBrs]at h;subst h;rfl
 |_::_,_,⟨_,_,h1,h2,h3⟩,h=>by
  subst h1;simp only[List.all_cons,Bool.and_eq_true]at h ⊢;exact⟨h2.cell h.1,SBrs.cell h3 h.2⟩
theorem SCr.cells{x:SC}{c:C}{xs:List SB}(h:SCr ρ x c)(hx:x.cells=some xs)(hc:xs.all SB.cell=true):SBrs ρ xs c.cells:=by
 cases x with
 |b y=>
  cases hx;simp only[List.all_cons,List.all_nil,Bool.and_true]at hc;refine⟨c,[],?_,h,rfl⟩;have:=SBr.cell h hc;cases c<;>simp_all[C.cell,C.cells]
 |agg ys=>
  cases hx;obtain⟨cs,rfl,h1⟩:=h;exact h1
 |_=>cases hx
theorem constS_rel{z:C}{x:SB}(h:constS z=some x):SBr ρ x z:=by
 unfold constS at h
 split at h<;>first|(cases h;exact⟨_,rfl,rfl⟩)|(cases h;rfl)|cases h
theorem consts_rel:∀{zs:List C} {xs:List SB},mapO constS zs=some xs→SBrs ρ xs zs
 |[],_,h=>by simp only[mapO,Option.some.injEq]at h;subst h;rfl
 |z::zs,xs,h=>by
  simp only[mapO]at h
  split at h
  ·rename_i y hy;simp only[Option.map_eq_some_iff]at h;obtain⟨ys,h1,rfl⟩:=h;exact⟨z,zs,rfl,constS_rel hy,consts_rel h1⟩
  ·cases h
theorem symFill_rel(h:Rel ρ S s)(hg:gsO ρ gs=some true):∀(ps:List (Nat×Nat×KX)) {zs l:List SB} {cs:List C},symFill S gs zs ps=some l→SBrs ρ zs cs→∃cs',fillC cs (ps.map fun p=>(p.1,p.2.1,(evX s p.2.2).cells))=some cs'∧SBrs ρ l cs'
 |[],zs,l,cs,he,hz=>by cases he;exact⟨cs,rfl,hz⟩
 |(o,n,x)::ps,zs,l,cs,he,hz=>by
  simp only[symFill]at he
  split at he
  ·rename_i c hc
   split at he
   ·rename_i ys hy
    split at he
    ·rename_i h1;obtain⟨h1,h2,h3⟩:=h1;have hr:=(symX_rel h hg hc).cells hy h3;obtain⟨cs',h4,h5⟩:=symFill_rel h hg ps he (hz.spl o hr);refine⟨cs',?_,h5⟩;simp only[List.map_cons,fillC];rw[if_pos ⟨by rw[hr.len,h1],by rw[hz.len];exact h2,hr.cell h3⟩];exact h4
    ·cases he
   ·cases he
  ·cases he
theorem cellsAt_rel{i:Nat}{x:D}{cs:List D}(hx:nth ρ i=some x)(hc:elC x=some cs):∀(n o:Nat),o+n≤cs.length→SBrs ρ (cellsAt i o n) (((cs.drop o).take n).map .d)
 |0,o,_=>rfl
 |n+1,o,h=>by
  have hl:o < cs.length:=by omega
  rw[List.drop_eq_getElem_cons hl,List.take_succ_cons,List.map_cons];exact⟨_,_,rfl,⟨cs[o],by simp only[SE.d,hx,hc,nth_get];simp[hl],rfl⟩,cellsAt_rel hx hc n (o+1) (by omega)⟩
theorem op1_sound{n:Nat}{o:PO}{l:List (Option SE)}(h:op1 n o l=some (bs,c))(hn:n=ρ.length)(hb:runB ρ bs=some ρ'):∃es xs x,l=es.map some∧evE ρ es=some xs∧evPO o xs=some x∧ρ'=ρ++[x]∧SCr ρ' c (.d x):=by
 have fin:∀{es:List SE},bs=[(o,es)]→c=vN n→l=es.map some→∃es xs x,l=es.map some∧evE ρ es=some xs∧evPO o xs=some x∧ρ'=ρ++[x]∧SCr ρ' c (.d x):=by
  intro es e1 e2 e3;subst e1 e2;obtain⟨xs,x,h1,h2,h3⟩:=runB_one hb;refine⟨es,xs,x,e3,h1,h2,h3,?_⟩;subst h3 hn;exact⟨x,nth_new ρ x [],rfl⟩
 unfold op1 at h
 split at h
 ·simp only[Option.some.injEq,Prod.mk.injEq]at h;exact fin h.1.symm h.2.symm rfl
 ·simp only[Option.some.injEq,Prod.mk.injEq]at h;exact fin h.1.symm h.2.symm rfl
 ·simp only[Option.some.injEq,Prod.mk.injEq]at h;exact fin h.1.symm h.2.symm rfl
 ·cases h
theorem opD(h:Rel ρ S s)(hg:gsO ρ gs=some true):∀(xs:List KX) {es:List SE} {ys:List D},xs.map (fun x=>sD (symX S gs x))=es.map some→evE ρ es=some ys→xs.map (evX s)=ys.map .d
 |[],es,ys,h1,h2=>by
  have:es=[]:=by simpa using h1.symm
  subst this;cases h2;rfl
 |x::xs,[],ys,h1,h2=>by simp at h1
 |x::xs,e::es,ys,h1,h2=>by
  simp only[List.map_cons,List.cons.injEq]at h1;obtain⟨y,zs,h3,h4,rfl⟩:=evE_cons h2;obtain⟨y',h5,h6⟩:=sD_rel h hg h1.1;rw[h3]at h5;cases h5;simp only[List.map_cons,h6,opD h hg xs h1.2 h4]
theorem one_(h:Rel ρ S s)(hg:gsO ρ gs=some true){x:KX}{es:List SE}{xs:List D}(hl:[sD (symX S gs x)]=es.map some)(he:evE ρ es=some xs):∃a,xs=[a]∧evX s x=.d a:=by
 have:=opD h hg [x] hl he;rcases xs with _|⟨a,_|⟨b,l⟩⟩
 ·simp at this
 ·simp at this;exact⟨a,rfl,this⟩
 ·simp at this
theorem two_(h:Rel ρ S s)(hg:gsO ρ gs=some true){x y:KX}{es:List SE}{xs:List D}(hl:[sD (symX S gs x),sD (symX S gs y)]=es.map some)(he:evE ρ es=some xs):∃a b,xs=[a,b]∧evX s x=.d a∧evX s y=.d b:=by
 have:=opD h hg [x,y] hl he;rcases xs with _|⟨a,_|⟨b,_|⟨c,l⟩⟩⟩
 ·simp at this
 ·simp at this
 ·simp at this;exact⟨a,b,rfl,this⟩
 ·simp at this
theorem symB(h:Rel ρ S s)(hg:gsO ρ gs=some true){lo:Option KX}{e:SE}{x:D}{a:Nat}(hl:boundS S gs lo=some e)(he:e.d ρ=some x)(hd:dI x=some a):∀z,(lo=none→z=0)→optI s lo z=some a:=by
 intro z hz;cases lo with
 |none=>
  simp only[boundS,Option.some.injEq]at hl;subst hl;cases he;simp only[SK.d,dI]at hd;simp only[optI,hz rfl]
  simpa using hd
 |some y=>
  simp only[boundS]at hl;obtain⟨v,h1,h2⟩:=sD_rel h hg hl;rw[he]at h1;cases h1;simp only[optI,h2];cases x with
  |int k m=>cases k<;>simp_all[dI]
  |_=>simp[dI]at hd
theorem evE_map{es:List SE}{xs:List D}(h:evE ρ es=some xs):xs.length=es.length:=by
 induction es generalizing xs with
 |nil=>cases h;rfl
 |cons e es ih=>
  obtain⟨x,ys,_,h2,rfl⟩:=evE_cons h;simp[ih h2]
theorem symP_sound(h:Rel ρ S s)(hg:gsO ρ gs=some true){n:Nat}(hn:n=ρ.length){o:KO}(hs:symP S gs n o=some (bs,c))(hb:runB ρ bs=some ρ'):∃v,evP s o=some v∧SCr ρ' c v:=by
 unfold symP at hs
 split at hs
 ·
  simp only[Option.map_eq_some_iff,Prod.mk.injEq]at hs;obtain⟨c',h1,rfl,rfl⟩:=hs;cases hb;exact⟨_,rfl,symX_rel h hg h1⟩
 ·
  split at hs
  ·rename_i e he;obtain⟨cv,h6,h7⟩:=sD_rel h hg he
   split at hs
   ·rename_i hm;have:=gs_all hg _ hm;rw[h6]at this;cases this;simp only[Option.map_eq_some_iff,Prod.mk.injEq]at hs;obtain⟨c',h1,rfl,rfl⟩:=hs;cases hb;exact⟨_,by simp only[evP,h7,if_true],symX_rel h hg h1⟩
   ·split at hs
    ·rename_i hm;have:=gs_all hg _ hm;rw[h6]at this;cases this;simp only[Option.map_eq_some_iff,Prod.mk.injEq]at hs;obtain⟨c',h1,rfl,rfl⟩:=hs;cases hb;exact⟨_,by simp only[evP,h7,Bool.false_eq_true,if_false],symX_rel h hg h1⟩
    ·obtain⟨es,xs,x,h1,h2,h3,h4,h5⟩:=op1_sound hs hn hb;rcases es with _|⟨e0,_|⟨e1,_|⟨e2,_|⟨e3,l⟩⟩⟩⟩<;>simp at h1
     obtain⟨rfl,hx,hy⟩:=h1;obtain⟨c0,ys,g1,g2,rfl⟩:=evE_cons h2;obtain⟨a,zs,g3,g4,rfl⟩:=evE_cons g2;obtain⟨b,g5,rfl⟩:=evE_one g4;rw[g1]at h6;cases h6;cases cv with
     |bool t=>
      simp only[evPO,Option.some.injEq]at h3;cases t with
      |true=>
       have hg':gsO ρ ((e,true)::gs)=some true:=by simp only[gsO,g1,if_true];exact hg
       obtain⟨a',q1,q2⟩:=sD_rel h hg' hx;rw[g3]at q1;cases q1;refine⟨_,by simp only[evP,h7,if_true];rfl,?_⟩;rw[q2];simp only[if_true]at h3;rw[h3];exact h5
      |false=>
       have hg':gsO ρ ((e,false)::gs)=some true:=by simp only[gsO,g1,if_true];exact hg
       obtain⟨b',q1,q2⟩:=sD_rel h hg' hy;rw[g5]at q1;cases q1;refine⟨_,by simp only[evP,h7];rfl,?_⟩;simp only[Bool.false_eq_true,if_false]at h3 ⊢;rw[q2,h3];exact h5
     |int k m=>simp[evPO]at h3
     |str t=>simp[evPO]at h3
     |list k fl es=>simp[evPO]at h3
  ·cases hs
 ·
  split at hs
  ·rename_i zs' hz;simp only[Option.map_eq_some_iff,Prod.mk.injEq]at hs;obtain⟨l,h1,rfl,rfl⟩:=hs;cases hb;obtain⟨cs',h2,h3⟩:=symFill_rel h hg _ h1 (consts_rel hz);exact⟨_,by simp only[evP,h2,Option.map_some],⟨cs',rfl,h3⟩⟩
  ·cases hs
 ·
  rename_i m x
  split at hs
  ·rename_i b o hx;have hr:=symX_rel h hg hx;simp only[SCr]at hr
   split at hs
   ·rename_i ys hl;obtain⟨cs,h1,h2⟩:=h.bx b ys hl
    split at hs
    ·rename_i hm;simp only[Option.map_eq_some_iff,Prod.mk.injEq]at hs;obtain⟨y,h3,rfl,rfl⟩:=hs;cases hb;obtain⟨cv,h4,h5⟩:=h2.nth h3;exact⟨cv,by simp only[evP,hr,h1,if_pos hm,h4],h5⟩
    ·rename_i hm
     split at hs
     ·rename_i hle;simp only[Option.some.injEq,Prod.mk.injEq]at hs;obtain⟨rfl,rfl⟩:=hs;cases hb;exact⟨_,by simp only[evP,hr,h1,if_neg hm];rw[if_pos (by rw[h2.len];exact hle)],⟨_,rfl,(h2.drop o).take m⟩⟩
     ·cases hs
   ·cases hs
  ·rename_i i o hx;obtain⟨el,cs,h1,h2,h3⟩:=symX_rel h hg hx
   split at hs
   ·rename_i hm;simp only[Option.some.injEq,Prod.mk.injEq]at hs;obtain⟨rfl,rfl⟩:=hs;obtain⟨xs,y,h4,h5,rfl⟩:=runB_one hb;obtain⟨a,h6,rfl⟩:=evE_one h4;simp only[SE.d,h1,Option.some.injEq]at h6;subst h6;simp only[evPO,h2]at h5;refine⟨.d y,?_,⟨y,by subst hn;exact nth_new ρ y [],rfl⟩⟩;simp only[evP,h3,if_pos hm];rw[nth_get,List.getElem?_drop,Nat.add_zero,← nth_get,h5];rfl
   ·rename_i hm;simp only[Option.some.injEq,Prod.mk.injEq]at hs;obtain⟨rfl,rfl⟩:=hs;obtain⟨xs,y,h4,h5,rfl⟩:=runB_one hb;obtain⟨a,h6,rfl⟩:=evE_one h4;simp only[SE.d,h1,Option.some.injEq]at h6;subst h6;simp only[evPO,h2]at h5
    split at h5
    ·rename_i hle;refine⟨_,?_,⟨_,rfl,(cellsAt_rel h1 h2 m o hle).mono _⟩⟩;simp only[evP,h3,if_neg hm];rw[if_pos (by rw[List.length_drop];omega)]
    ·cases h5
  ·rename_i r k i o hx;obtain⟨iv,h1,h2⟩:=symX_rel h hg hx
   split at hs
   ·rename_i row hl;obtain⟨y,h3,es,h4,rfl⟩:=h.rw r row hl
    split at hs
    ·rename_i hk;subst hk;have key:∀{q:Nat} {el:D},evPO (.eld row.k o q row.deep) [.list row.k row.fl es,.int .i64 iv]=some el→∃e,nth es iv.toNat=some e∧o+q≤row.k∧o+q≤e.length∧(plains ((e.drop o).take q) ||!row.deep)=true∧el=.list 0 false [e]:=by
      intro q el he;simp only[evPO]at he
      split at he
      ·rename_i e hne
       split at he
       ·rename_i hc;cases he;exact⟨e,hne,hc.2.1,hc.2.2.1,hc.2.2.2,rfl⟩
       ·cases he
      ·cases he
     split at hs
     ·rename_i hm;simp only[Option.some.injEq,Prod.mk.injEq]at hs;obtain⟨rfl,rfl⟩:=hs;simp only[runB]at hb
      split at hb
      ·rename_i xs hxs
       split at hb
       ·rename_i el hel;obtain⟨z,zs,q1,q2,rfl⟩:=evE_cons hxs;obtain⟨z2,q3,rfl⟩:=evE_one q2;rw[h4]at q1;cases q1;rw[h1]at q3;cases q3;obtain⟨e,e1,e2,e3,e4,rfl⟩:=key hel
        split at hb
        ·rename_i xs2 hxs2
         split at hb
         ·rename_i v hv;cases hb;obtain⟨w0,w1,rfl⟩:=evE_one hxs2;simp only[SE.d,hn,nth_new,Option.some.injEq]at w1;subst w1;simp only[evPO,elC]at hv;refine⟨.d v,?_,⟨v,by subst hn;have:=nth_new (ρ++[.list 0 false [e]]) v [];simpa [SE.d] using this,rfl⟩⟩;subst hm;simp only[evP,h2,h3,e1];rw[if_pos ⟨trivial,by simpa using e2,by simpa using e4⟩,if_pos trivial,hv];rfl
         ·cases hb
        ·cases hb
       ·cases hb
      ·cases hb
     ·rename_i hm;simp only[Option.some.injEq,Prod.mk.injEq]at hs;obtain⟨rfl,rfl⟩:=hs;obtain⟨xs,el,hxs,hel,rfl⟩:=runB_one hb;obtain⟨z,zs,q1,q2,rfl⟩:=evE_cons hxs;obtain⟨z2,q3,rfl⟩:=evE_one q2;rw[h4]at q1;cases q1;rw[h1]at q3;cases q3;obtain⟨e,e1,e2,e3,e4,rfl⟩:=key hel;have hmax:Max.max m 1=m:=by omega
      refine⟨_,?_,⟨_,rfl,cellsAt_rel (x:=.list 0 false [e]) (by rw[hn];exact nth_new ρ _ []) rfl m o e3⟩⟩;simp only[evP,h2,h3,e1,hmax];rw[if_pos ⟨trivial,e2,e4⟩,if_neg hm]
    ·cases hs
   ·cases hs
  ·cases hs
 ·
  split at hs
  ·rename_i b p hx;simp only[Option.some.injEq,Prod.mk.injEq]at hs;obtain⟨rfl,rfl⟩:=hs;cases hb;have hr:=symX_rel h hg hx;simp only[SCr]at hr;exact⟨_,by simp only[evP,hr],rfl⟩
  ·rename_i i p hx;simp only[Option.some.injEq,Prod.mk.injEq]at hs;obtain⟨rfl,rfl⟩:=hs;cases hb;obtain⟨x,cs,h1,h2,h3⟩:=symX_rel h hg hx;exact⟨_,by simp only[evP,h3];rfl,x,cs,h1,h2,by rw[List.drop_drop]⟩
  ·rename_i r k i p hx;simp only[Option.some.injEq,Prod.mk.injEq]at hs;obtain⟨rfl,rfl⟩:=hs;cases hb;obtain⟨iv,h1,h2⟩:=symX_rel h hg hx;exact⟨_,by simp only[evP,h2],iv,h1,rfl⟩
  ·cases hs
 ·
  split at hs
  ·rename_i e j hx hj;simp only[Option.some.injEq,Prod.mk.injEq]at hs;obtain⟨rfl,rfl⟩:=hs;obtain⟨xs,y,h4,h5,rfl⟩:=runB_one hb;obtain⟨a,zs,h6,h7,rfl⟩:=evE_cons h4;obtain⟨b,h8,rfl⟩:=evE_one h7;obtain⟨a',h9,h10⟩:=symX_rel h hg hx;obtain⟨b',h11,h12⟩:=sD_rel h hg hj;rw[h6]at h9;cases h9;rw[h8]at h11;cases h11;cases a with
   |list k' fl es=>
    cases b with
    |int kk m=>
     cases kk<;>first|(simp[evPO]at h5;done)|skip
     simp only[evPO]at h5
     split at h5
     ·rename_i hc;simp only[Option.map_eq_some_iff]at h5;obtain⟨el,q1,rfl⟩:=h5;exact⟨_,by simp only[evP,h10,h12];rw[if_pos hc,q1];rfl,_,_,by rw[hn];exact nth_new ρ _ [],rfl,rfl⟩
     ·cases h5
    |_=>simp[evPO]at h5
   |_=>cases b<;>simp[evPO]at h5
  ·rename_i r j hx hj
   split at hs
   ·rename_i row hl;obtain⟨y,h1,es,h2,rfl⟩:=h.rw r row hl
    split at hs
    ·rename_i hk;simp only[Option.some.injEq,Prod.mk.injEq]at hs;obtain⟨rfl,rfl⟩:=hs;obtain⟨xs,y,h4,h5,rfl⟩:=runB_one hb;obtain⟨a,zs,h6,h7,rfl⟩:=evE_cons h4;obtain⟨b,h8,rfl⟩:=evE_one h7;obtain⟨b',h11,h12⟩:=sD_rel h hg hj;rw[h2]at h6;cases h6;rw[h8]at h11;cases h11;have hr:=symX_rel h hg hx;simp only[SCr,SBr]at hr;cases b with
     |int kk m=>
      cases kk<;>first|(simp[evPO]at h5;done)|skip
      simp only[evPO]at h5
      split at h5
      ·rename_i hc;exact⟨_,by simp only[evP,hr,h12,h1];rw[if_pos ⟨hc.1,hc.2,hk⟩],m,SE.mono _ h8,rfl⟩
      ·cases h5
     |_=>simp[evPO]at h5
    ·cases hs
   ·cases hs
  ·cases hs
 ·
  obtain⟨es,xs,y,h1,h2,h3,rfl,h5⟩:=op1_sound hs hn hb;obtain⟨a,b,rfl,h6,h7⟩:=two_ h hg h1 h2;refine⟨_,?_,h5⟩;simp only[evP,h6,h7];cases a<;>cases b<;>first|(simp[evPO]at h3;done)|skip
  rename_i t k m;cases k<;>first|(simp[evPO]at h3;done)|skip
  simp only[evPO]at h3
  split at h3
  ·rename_i hc;cases h3;simp only;rw[if_pos hc]
  ·cases h3
 ·
  obtain⟨es,xs,y,h1,h2,h3,rfl,h5⟩:=op1_sound hs hn hb;obtain⟨a,b,rfl,h6,h7⟩:=two_ h hg h1 h2;refine⟨_,?_,h5⟩;simp only[evP,h6,h7];simp only[evPO]at h3;unfold asD at h3
  split at h3
  ·rename_i z hz;cases h3;exact hz
  ·cases h3
 ·
  obtain⟨es,xs,y,h1,h2,h3,rfl,h5⟩:=op1_sound hs hn hb;obtain⟨a,b,rfl,h6,h7⟩:=two_ h hg h1 h2;refine⟨_,?_,h5⟩;simp only[evP,h6,h7];cases a<;>cases b<;>first|(simp[evPO]at h3;done)|skip
  simp only[evPO]at h3;simp only[h3,Option.map_some]
 ·
  obtain⟨es,xs,y,h1,h2,h3,rfl,h5⟩:=op1_sound hs hn hb;obtain⟨a,rfl,h6⟩:=one_ h hg h1 h2;refine⟨_,?_,h5⟩;simp only[evP,h6];cases a<;>first|(simp[evPO]at h3;done)|skip
  simp only[evPO,Option.some.injEq]at h3;simp only[h3]
 ·
  obtain⟨es,xs,y,h1,h2,h3,rfl,h5⟩:=op1_sound hs hn hb;obtain⟨a,rfl,h6⟩:=one_ h hg h1 h2;refine⟨_,?_,h5⟩;simp only[evP,h6];cases a<;>first|(simp[evPO]at h3;done)|skip
  simp only[evPO,Option.some.injEq]at h3;simp only[h3]
 ·
  obtain⟨es,xs,y,h1,h2,h3,rfl,h5⟩:=op1_sound hs hn hb;obtain⟨a,rfl,h6⟩:=one_ h hg h1 h2;refine⟨_,?_,h5⟩;simp only[evP,h6];cases a<;>first|(simp[evPO]at h3;done)|skip
  simp only[evPO,Option.some.injEq]at h3;simp only[h3]
 ·
  split at hs
  ·rename_i e hx;simp only[Option.some.injEq,Prod.mk.injEq]at hs;obtain⟨rfl,rfl⟩:=hs;obtain⟨xs,y,h4,h5,rfl⟩:=runB_one hb;obtain⟨a,h6,rfl⟩:=evE_one h4;obtain⟨a',h9,h10⟩:=symX_rel h hg hx;rw[h6]at h9;cases h9;refine⟨.d y,?_,y,by subst hn;exact nth_new ρ y [],rfl⟩;simp only[evP,h10];cases a<;>first|(simp[evPO]at h5;done)|skip
   simp only[evPO,Option.some.injEq]at h5;simp only[h5]
  ·rename_i k fl hx;simp only[Option.some.injEq,Prod.mk.injEq]at hs;obtain⟨rfl,rfl⟩:=hs;cases hb;have hr:=symX_rel h hg hx;simp only[SCr,SBr]at hr;exact⟨_,by simp only[evP,hr];rfl,_,rfl,rfl⟩
  ·rename_i r hx
   split at hs
   ·rename_i row hl;obtain⟨y,h1,es,h2,rfl⟩:=h.rw r row hl;simp only[Option.some.injEq,Prod.mk.injEq]at hs;obtain⟨rfl,rfl⟩:=hs;obtain⟨xs,y,h4,h5,rfl⟩:=runB_one hb;obtain⟨a,h6,rfl⟩:=evE_one h4;rw[h2]at h6;cases h6;have hr:=symX_rel h hg hx;simp only[SCr,SBr]at hr;simp only[evPO,Option.some.injEq]at h5;exact⟨.d y,by simp only[evP,hr,h1,← h5],y,by subst hn;exact nth_new ρ y [],rfl⟩
   ·cases hs
  ·cases hs
 ·
  obtain⟨es,xs,y,h1,h2,h3,rfl,h5⟩:=op1_sound hs hn hb;obtain⟨a,rfl,h6⟩:=one_ h hg h1 h2;refine⟨_,?_,h5⟩;simp only[evP,h6];cases a<;>first|(simp[evPO]at h3;done)|skip
  simp only[evPO,Option.some.injEq]at h3;simp only[h3]
 ·
  obtain⟨es,xs,y,h1,h2,h3,rfl,h5⟩:=op1_sound hs hn hb;obtain⟨a,b,rfl,h6,h7⟩:=two_ h hg h1 h2;refine⟨_,?_,h5⟩;simp only[evP,h6,h7];cases a<;>cases b<;>first|(simp[evPO]at h3;done)|skip
  rename_i k1 a k2 b;cases k1<;>cases k2<;>first|(simp[evPO]at h3;done)|skip
  simp only[evPO,Option.some.injEq]at h3;simp only[h3]
 ·
  obtain⟨es,xs,y,h1,h2,h3,rfl,h5⟩:=op1_sound hs hn hb;obtain⟨a,b,rfl,h6,h7⟩:=two_ h hg h1 h2;refine⟨_,?_,h5⟩;simp only[evP,h6,h7];cases a<;>cases b<;>first|(simp[evPO]at h3;done)|skip
  rename_i k1 a k2 b;cases k1<;>cases k2<;>first|(simp[evPO]at h3;done)|skip
  simp only[evPO,Option.some.injEq]at h3;simp only[h3]
 ·
  split at hs
  ·rename_i ys hx;obtain⟨cs,h1,h2⟩:=symX_rel h hg hx;have key:∀{ys:List (SB ⊕ List SB)} {cs:List C} (i:Nat),STr ρ ys cs→(∀y,nth ys i=some (.inl y)→∃c,nth cs i=some c∧SBr ρ y c)∧(∀l,nth ys i=some (.inr l)→∃ds,nth cs i=some (.agg ds)∧SBrs ρ l ds):=by
    intro ys
    induction ys with
    |nil=>intro cs i _;exact⟨fun _ h=>by simp[nth]at h,fun _ h=>by simp[nth]at h⟩
    |cons y ys ih=>
     intro cs i hr;cases y with
     |inl y=>
      obtain⟨c,cs',rfl,g1,g2⟩:=hr;cases i with
      |zero=>exact⟨fun z hz=>by cases hz;exact⟨c,rfl,g1⟩,fun l hl=>by cases hl⟩
      |succ i=>exact ih i g2
     |inr l=>
      obtain⟨ds,cs',rfl,g1,g2⟩:=hr;cases i with
      |zero=>exact⟨fun z hz=>(by cases hz),fun l hl=>by cases hl;exact⟨ds,rfl,g1⟩⟩
      |succ i=>exact ih i g2
   split at hs
   ·rename_i y hy;simp only[Option.some.injEq,Prod.mk.injEq]at hs;obtain⟨rfl,rfl⟩:=hs;cases hb;obtain⟨cv,h3,h4⟩:=(key _ h2).1 y hy;exact⟨cv,by simp only[evP,h1,h3],h4⟩
   ·rename_i l hy;simp only[Option.some.injEq,Prod.mk.injEq]at hs;obtain⟨rfl,rfl⟩:=hs;cases hb;obtain⟨ds,h3,h4⟩:=(key _ h2).2 l hy;exact⟨_,by simp only[evP,h1,h3],⟨ds,rfl,h4⟩⟩
   ·cases hs
  ·cases hs
 ·
  obtain⟨es,xs,y,h1,h2,h3,rfl,h5⟩:=op1_sound hs hn hb;rcases es with _|⟨e0,_|⟨e1,_|⟨e2,_|⟨e3,l⟩⟩⟩⟩<;>simp at h1
  obtain⟨hx,rfl,hy⟩:=h1;obtain⟨a,ys,g1,g2,rfl⟩:=evE_cons h2;obtain⟨z,zs,g3,g4,rfl⟩:=evE_cons g2;obtain⟨b,g5,rfl⟩:=evE_one g4;cases g3;obtain⟨a',q1,q2⟩:=sD_rel h hg hx;obtain⟨b',q3,q4⟩:=sD_rel h hg hy;rw[g1]at q1;cases q1;rw[g5]at q3;cases q3;refine⟨_,?_,h5⟩;cases a<;>first|(simp[evPO]at h3;done)|skip
  cases b<;>first|(simp[evPO,dI,SK.d]at h3;done)|skip
  rename_i k m;cases k<;>first|(simp[evPO,dI,SK.d]at h3;done)|skip
  simp only[evPO,dI,SK.d,Int.le_refl,if_true,Int.toNat_zero]at h3
  split at h3
  ·rename_i a b ha hb';cases ha
   split at hb'
   ·rename_i hm;cases hb'
    split at h3
    ·rename_i hc;cases h3;simp only[evP,q2,q4];rw[if_pos ⟨hm,hc.2⟩,List.drop_zero]
    ·cases h3
   ·cases hb'
  ·cases h3
 ·
  split at hs
  ·obtain⟨es,xs,y,h1,h2,h3,rfl,h5⟩:=op1_sound hs hn hb;rcases es with _|⟨e0,_|⟨e1,_|⟨e2,l⟩⟩⟩<;>simp at h1
   obtain⟨hx,hy⟩:=h1;obtain⟨a,ys,g1,g2,rfl⟩:=evE_cons h2;obtain⟨z,g3,rfl⟩:=evE_one g2;obtain⟨a',q1,q2⟩:=sD_rel h hg hx;rw[g1]at q1;cases q1;refine⟨_,?_,h5⟩;cases a<;>first|(simp[evPO]at h3;done)|skip
   simp only[evPO]at h3
   split at h3
   ·rename_i a ha;have hlo:=symB h hg hy g3 ha 0 (fun _=>rfl)
    split at h3
    ·rename_i hc;cases h3;simp only[evP,q2,hlo];simp only[optI];rw[if_pos ⟨hc,Nat.le_refl _⟩]
    ·cases h3
   ·cases h3
  ·obtain⟨es,xs,y,h1,h2,h3,rfl,h5⟩:=op1_sound hs hn hb;rcases es with _|⟨e0,_|⟨e1,_|⟨e2,_|⟨e3,l⟩⟩⟩⟩<;>simp at h1
   obtain⟨hx,hy,hz⟩:=h1;obtain⟨a,ys,g1,g2,rfl⟩:=evE_cons h2;obtain⟨z,zs,g3,g4,rfl⟩:=evE_cons g2;obtain⟨b,g5,rfl⟩:=evE_one g4;obtain⟨a',q1,q2⟩:=sD_rel h hg hx;rw[g1]at q1;cases q1;refine⟨_,?_,h5⟩;cases a<;>first|(simp[evPO]at h3;done)|skip
   simp only[evPO]at h3
   split at h3
   ·rename_i a b ha hb';have hlo:=symB h hg hy g3 ha 0 (fun _=>rfl)
    split at h3
    ·rename_i hc;cases h3;have hhi:=fun z=>symB (lo:=some _) h hg hz g5 hb' z (fun h=>by cases h);simp only[evP,q2,hlo,hhi];rw[if_pos hc]
    ·cases h3
   ·cases h3
 ·
  split at hs
  ·obtain⟨es,xs,y,h1,h2,h3,rfl,h5⟩:=op1_sound hs hn hb;rcases es with _|⟨e0,_|⟨e1,_|⟨e2,l⟩⟩⟩<;>simp at h1
   obtain⟨hx,hy⟩:=h1;obtain⟨a,ys,g1,g2,rfl⟩:=evE_cons h2;obtain⟨z,g3,rfl⟩:=evE_one g2;obtain⟨a',q1,q2⟩:=sD_rel h hg hx;rw[g1]at q1;cases q1;refine⟨_,?_,h5⟩;cases a<;>first|(simp[evPO]at h3;done)|skip
   simp only[evPO]at h3
   split at h3
   ·rename_i a ha;have hlo:=symB h hg hy g3 ha 0 (fun _=>rfl)
    split at h3
    ·rename_i hc;cases h3;simp only[evP,q2,hlo];simp only[optI];rw[if_pos ⟨hc.1,hc.2,Nat.le_refl _⟩,List.take_length]
    ·cases h3
   ·cases h3
  ·obtain⟨es,xs,y,h1,h2,h3,rfl,h5⟩:=op1_sound hs hn hb;rcases es with _|⟨e0,_|⟨e1,_|⟨e2,_|⟨e3,l⟩⟩⟩⟩<;>simp at h1
   obtain⟨hx,hy,hz⟩:=h1;obtain⟨a,ys,g1,g2,rfl⟩:=evE_cons h2;obtain⟨z,zs,g3,g4,rfl⟩:=evE_cons g2;obtain⟨b,g5,rfl⟩:=evE_one g4;obtain⟨a',q1,q2⟩:=sD_rel h hg hx;rw[g1]at q1;cases q1;refine⟨_,?_,h5⟩;cases a<;>first|(simp[evPO]at h3;done)|skip
   simp only[evPO]at h3
   split at h3
   ·rename_i a b ha hb';have hlo:=symB h hg hy g3 ha 0 (fun _=>rfl)
    split at h3
    ·rename_i hc;cases h3;have hhi:=fun z=>symB (lo:=some _) h hg hz g5 hb' z (fun h=>by cases h);simp only[evP,q2,hlo,hhi];rw[if_pos hc]
    ·cases h3
   ·cases h3
 ·
  split at hs
  ·rename_i b p hx;simp only[Option.some.injEq,Prod.mk.injEq]at hs;obtain⟨rfl,rfl⟩:=hs;cases hb;have hr:=symX_rel h hg hx;simp only[SCr]at hr;exact⟨_,by simp only[evP,hr],rfl⟩
  ·rename_i i p hx;simp only[Option.some.injEq,Prod.mk.injEq]at hs;obtain⟨rfl,rfl⟩:=hs;cases hb;obtain⟨x,cs,h1,h2,h3⟩:=symX_rel h hg hx;exact⟨_,by simp only[evP,h3],x,cs,h1,h2,rfl⟩
  ·rename_i r k i p hx;simp only[Option.some.injEq,Prod.mk.injEq]at hs;obtain⟨rfl,rfl⟩:=hs;cases hb;obtain⟨iv,h1,h2⟩:=symX_rel h hg hx;exact⟨_,by simp only[evP,h2],iv,h1,rfl⟩
  ·cases hs
 ·
  split at hs
  ·rename_i r hx
   split at hs
   ·rename_i row hl;obtain⟨y,h1,es,h2,rfl⟩:=h.rw r row hl
    split at hs
    ·rename_i hk;simp only[Option.some.injEq,Prod.mk.injEq]at hs;obtain⟨rfl,rfl⟩:=hs;obtain⟨xs,y,h4,h5,rfl⟩:=runB_one hb;obtain⟨a,h6,rfl⟩:=evE_one h4;rw[h2]at h6;cases h6;have hr:=symX_rel h hg hx;simp only[SCr,SBr]at hr;rw[hk]at h5;simp only[evPO]at h5;refine⟨.d y,?_,y,by subst hn;exact nth_new ρ y [],rfl⟩;simp only[evP,hr,h1];rw[if_pos hk];rw[Option.map_eq_some_iff]at h5 ⊢;obtain⟨zs,z1,z2⟩:=h5;exact⟨zs,z1,by rw[z2]⟩
    ·cases hs
   ·cases hs
  ·cases hs
 ·cases hs
end
end
section
def symEmb(S:SS):List SB→Option (List SE×List SE×Bool×SS)
 |[]=>some ([],[],true,S)
 | .d e::xs=>match e with
  | .k (.nil _ _)=>none
  | .k x=>(symEmb S xs).map fun p=>(.k x::p.1,p.2.1,p.2.2.1,p.2.2.2)
  |e=>(symEmb S xs).map fun p=>(e::p.1,e::p.2.1,p.2.2.1,p.2.2.2)
 | .nil k fl::xs=>(symEmb S xs).map fun p=>(.k (.nil k fl)::p.1,p.2.1,p.2.2.1,p.2.2.2)
 | .ref r::xs=>match look S.rw r with
  |some x=>(symEmb (S.dropRow r) xs).map fun p=>(x.e::p.1,p.2.1,x.deep && !x.fz && p.2.2.1,p.2.2.2)
  |none=>none
 | .any::_=>none
def symEmbs(k:Nat):SS→List SC→Option (List SE×List SE×Bool×SS)
 |S,[]=>some ([],[],true,S)
 |S,c::cs=>match c.cells with
  |some xs=>if xs.all SB.cell=true then (match symEmb S xs with
   |some p=>if p.1.length=k then (symEmbs k p.2.2.2 cs).map fun q=>(p.1++q.1,p.2.1++q.2.1,p.2.2.1 && q.2.2.1,q.2.2.2) else none
   |none=>none) else none
  |none=>none
def SCrs(ρ:List D):List SC→List C→Prop
 |[],cs=>cs=[]
 |x::xs,cs=>∃c cs',cs=c::cs'∧SCr ρ x c∧SCrs ρ xs cs'
section
variable {ρ ρ':List D} {S:SS} {s:St} {gs:Gs}
theorem evE_app:∀{es fs:List SE} {xs ys:List D},evE ρ es=some xs→evE ρ fs=some ys→evE ρ (es++fs)=some (xs++ys)
 |[],_,_,_,h,h'=>by cases h;exact h'
 |e::es,_,_,_,h,h'=>by
  obtain⟨x,ys,h1,h2,rfl⟩:=evE_cons h;simp only[List.cons_append,evE,h1,evE_app h2 h',Option.map_some]
theorem evE_split:∀{es fs:List SE} {xs ds:List D},evE ρ es=some xs→evE ρ (es++fs)=some ds→∃ys,ds=xs++ys∧evE ρ fs=some ys
 |[],_,_,ds,h,h'=>by cases h;exact⟨ds,rfl,h'⟩
 |e::es,_,_,_,h,h'=>by
  obtain⟨x,ys,h1,h2,rfl⟩:=evE_cons h;obtain⟨x',zs,h3,h4,rfl⟩:=evE_cons (es:=es++_) h';rw[h1]at h3;cases h3;obtain⟨ws,rfl,h5⟩:=evE_split h2 h4;exact⟨ws,rfl,h5⟩
theorem evE_mono(τ:List D):∀{es:List SE} {xs:List D},evE ρ es=some xs→evE (ρ++τ) es=some xs
 |[],_,h=>by cases h;rfl
 |e::es,_,h=>by
  obtain⟨x,ys,h1,h2,rfl⟩:=evE_cons h;simp only[evE,SE.mono τ h1,evE_mono τ h2,Option.map_some]
theorem plains_cons(x:D)(xs:List D):plains (x::xs)=(x.plain && plains xs):=rfl
theorem plains_app(xs ys:List D):plains (xs++ys)=(plains xs && plains ys):=List.all_append
theorem emb_sym:∀{xs:List SB} {cs:List C} {S S':SS} {s:St} {es pl:List SE} {dp:Bool},Rel ρ S s→SBrs ρ xs cs→symEmb S xs=some (es,pl,dp,S')→
  ∃ds ps s',emb s cs=some (ds,dp && plains ps,s')∧evE ρ es=some ds∧evE ρ pl=some ps∧Rel ρ S' s':=by
 intro xs
 induction xs with
 |nil=>
  intro cs S S' s es pl dp h hx hs;simp only[SBrs]at hx;subst hx;simp only[symEmb,Option.some.injEq,Prod.mk.injEq]at hs;obtain⟨rfl,rfl,rfl,rfl⟩:=hs;exact⟨[],[],s,rfl,rfl,rfl,h⟩
 |cons x xs ih=>
  intro cs S S' s es pl dp h hx hs;obtain⟨c,cs',rfl,h1,h2⟩:=hx;have data:∀{e:SE},x=.d e→(symEmb S xs).map (fun p=>(e::p.1,e::p.2.1,p.2.2.1,p.2.2.2))=some (es,pl,dp,S')→∃ds ps s',emb s (c::cs')=some (ds,dp && plains ps,s')∧evE ρ es=some ds∧evE ρ pl=some ps∧Rel ρ S' s':=by
   intro e he hs';subst he;obtain⟨⟨a1,a2,a3,a4⟩,h4,h5⟩:=Option.map_eq_some_iff.1 hs';simp only[Prod.mk.injEq]at h5;obtain⟨rfl,rfl,rfl,rfl⟩:=h5;obtain⟨y,h6,rfl⟩:=h1;obtain⟨ds,ps,s',g1,g2,g3,g4⟩:=ih h h2 h4;refine⟨y::ds,y::ps,s',?_,by simp only[evE,h6,g2,Option.map_some],by simp only[evE,h6,g3,Option.map_some],g4⟩;simp only[emb,g1,Option.map_some,plains_cons,Option.some.injEq,Prod.mk.injEq,true_and,and_true];cases D.plain y<;>simp
  cases x with
  |d e=>
   cases e with
   |v i=>exact data rfl hs
   |c i j=>exact data rfl hs
   |k z=>
    have hz:∀{y:D},z.d=y→D.plain y=true→(symEmb S xs).map (fun p=>(SE.k z::p.1,p.2.1,p.2.2.1,p.2.2.2))=some (es,pl,dp,S')→∃ds ps s',emb s (c::cs')=some (ds,dp && plains ps,s')∧evE ρ es=some ds∧evE ρ pl=some ps∧Rel ρ S' s':=by
     intro y h6 hp hs;obtain⟨⟨a1,a2,a3,a4⟩,h4,h5⟩:=Option.map_eq_some_iff.1 hs;simp only[Prod.mk.injEq]at h5;obtain⟨rfl,rfl,rfl,rfl⟩:=h5;obtain⟨y',h7,rfl⟩:=h1;simp only[SE.d,Option.some.injEq]at h7;rw[h6]at h7;subst h7;obtain⟨ds,ps,s',g1,g2,g3,g4⟩:=ih h h2 h4;exact⟨y::ds,ps,s',by simp only[emb,g1,Option.map_some,hp,Bool.true_and],by simp only[evE,SE.d,h6,g2,Option.map_some],g3,g4⟩
    cases z with
    |nil k fl=>cases hs
    |int k n=>exact hz rfl rfl hs
    |bool b=>exact hz rfl rfl hs
    |str t=>exact hz rfl rfl hs
  |nil k fl=>
   obtain⟨⟨a1,a2,a3,a4⟩,h4,h5⟩:=Option.map_eq_some_iff.1 hs;simp only[Prod.mk.injEq]at h5;obtain⟨rfl,rfl,rfl,rfl⟩:=h5;simp only[SBr]at h1;subst h1;obtain⟨ds,ps,s',g1,g2,g3,g4⟩:=ih h h2 h4;exact⟨D.list k fl []::ds,ps,s',by simp only[emb,g1,Option.map_some],by simp only[evE,SE.d,SK.d,g2,Option.map_some],g3,g4⟩
  |ref r=>
   simp only[symEmb]at hs
   split at hs
   ·rename_i row hl;obtain⟨⟨a1,a2,a3,a4⟩,h4,h5⟩:=Option.map_eq_some_iff.1 hs;simp only[Prod.mk.injEq]at h5;obtain⟨rfl,rfl,rfl,rfl⟩:=h5;simp only[SBr]at h1;subst h1;obtain⟨y,q1,es',q2,rfl⟩:=h.rw r row hl;obtain⟨ds,ps,s',g1,g2,g3,g4⟩:=ih (h.dropRow r) h2 h4;exact⟨D.list row.k row.fl es'::ds,ps,s',by simp only[emb,q1,g1,Option.map_some,Bool.and_assoc],by simp only[evE,q2,g2,Option.map_some],g3,g4⟩
   ·cases hs
  |any=>cases hs
theorem emb_plain:∀{cs:List C} {s s':St} {ds:List D} {dp:Bool},emb s cs=some (ds,dp,s')→plains ds=true→dp=true:=by
 intro cs
 induction cs with
 |nil=>intro s s' ds dp h _;simp only[emb,Option.some.injEq,Prod.mk.injEq]at h;exact h.2.1.symm
 |cons c cs ih=>
  intro s s' ds dp h hp;cases c with
  |d x=>
   obtain⟨⟨a1,a2,a3⟩,h4,h5⟩:=Option.map_eq_some_iff.1 h;simp only[Prod.mk.injEq]at h5;obtain⟨rfl,rfl,rfl⟩:=h5;rw[plains_cons,Bool.and_eq_true]at hp;rw[hp.1,ih h4 hp.2];rfl
  |nil k fl=>
   obtain⟨⟨a1,a2,a3⟩,h4,h5⟩:=Option.map_eq_some_iff.1 h;simp only[Prod.mk.injEq]at h5;obtain⟨rfl,rfl,rfl⟩:=h5;rw[plains_cons,Bool.and_eq_true]at hp;exact ih h4 hp.2
  |ref r=>
   simp only[emb]at h
   split at h
   ·obtain⟨⟨a1,a2,a3⟩,h4,h5⟩:=Option.map_eq_some_iff.1 h;simp only[Prod.mk.injEq]at h5;obtain⟨rfl,rfl,rfl⟩:=h5;rw[plains_cons,Bool.and_eq_true]at hp;exact absurd hp.1 (by simp[D.plain])
   ·cases h
  |ptr _ _=>cases h
  |ept _ _ _ _=>cases h
  |dpt _=>cases h
  |agg _=>cases h
  |tup _=>cases h
  |und=>cases h
  |any=>cases h
theorem embs_sym{k:Nat}{fl:Bool}:∀{cs:List SC} {vs:List C} {S S':SS} {s:St} {es pl:List SE} {dp:Bool} {ds:List D} {ess:List (List D)},Rel ρ S s→SCrs ρ cs vs→symEmbs k S cs=some (es,pl,dp,S')→
  evE ρ es=some ds→chunk k cs.length ds=some ess→(fl=true→ess.all plains=true)→∃ps s',embs k fl s vs=some (ess,dp && plains ps,s')∧evE ρ pl=some ps∧Rel ρ S' s':=by
 intro cs
 induction cs with
 |nil=>
  intro vs S S' s es pl dp ds ess h hv hs he hc hf;simp only[SCrs]at hv;subst hv;simp only[symEmbs,Option.some.injEq,Prod.mk.injEq]at hs;obtain⟨rfl,rfl,rfl,rfl⟩:=hs;cases he;cases hc;exact⟨[],s,rfl,rfl,h⟩
 |cons c cs ih=>
  intro vs S S' s es pl dp ds ess h hv hs he hc hf;obtain⟨v,vs',rfl,hv1,hv2⟩:=hv;simp only[symEmbs]at hs
  split at hs
  ·rename_i xs hx
   split at hs
   ·rename_i hcl
    split at hs
    ·rename_i p hp;obtain⟨p1,p2,p3,p4⟩:=p;simp only at hs
     split at hs
     ·rename_i hk;obtain⟨⟨a1,a2,a3,a4⟩,h4,h5⟩:=Option.map_eq_some_iff.1 hs;simp only[Prod.mk.injEq]at h5;obtain⟨rfl,rfl,rfl,rfl⟩:=h5;obtain⟨ds1,ps1,s1,g1,g2,g3,g4⟩:=emb_sym h (hv1.cells hx hcl) hp;have hl1:ds1.length=k:=by rw[evE_map g2,hk]
      have hsp:=evE_split g2 he;obtain⟨ds2,rfl,he2⟩:=hsp;simp only[List.length_cons,chunk,List.length_append,hl1]at hc;rw[if_pos (by omega)]at hc;obtain⟨ess',w1,rfl⟩:=Option.map_eq_some_iff.1 hc;have ht:(ds1++ds2).take k=ds1:=by rw[← hl1];exact List.take_left
      have hd:(ds1++ds2).drop k=ds2:=by rw[← hl1];exact List.drop_left
      rw[hd]at w1;rw[ht]at hf ⊢;simp only[List.all_cons,Bool.and_eq_true]at hf;obtain⟨ps,s',q1,q2,q3⟩:=ih g4 hv2 h4 he2 w1 (fun hfl=>(hf hfl).2);refine⟨ps1++ps,s',?_,evE_app g3 q2,q3⟩;simp only[embs,g1];rw[if_pos ⟨hl1,fun hfl=>(hf hfl).1⟩,q1];simp only[Option.map_some,plains_app,Option.some.injEq,Prod.mk.injEq,true_and,and_true];cases p3<;>cases a3<;>simp
     ·cases hs
    ·cases hs
   ·cases hs
  ·cases hs
end
end
section
def skOf:D→Option SK
 | .int k n=>some (.int k n)
 | .bool b=>some (.bool b)
 | .str t=>some (.str t)
 | .list k fl []=>some (.nil k fl)
 |_=>none
def SB.ren(q i:Nat):SB→SB
 | .ref r=>if r=q then .ref i else if r=i then .any else .ref r
 |x=>x
def SC.ren(q i:Nat):SC→SC
 | .b x=>.b (x.ren q i)
 | .agg xs=>.agg (xs.map (SB.ren q i))
 | .tup xs=>.tup (xs.map fun | .inl x=>.inl (x.ren q i) | .inr l=>.inr (l.map (SB.ren q i)))
 | .ept r k a o=>if r=q then .ept i k a o else if r=i then .any else .ept r k a o
 |x=>x
def SS.ren(S:SS)(q i:Nat)(row:SR):SS:=⟨S.sl.map fun p=>(p.1,⟨p.2.gs,p.2.c.ren q i⟩),S.bx.map fun p=>(p.1,p.2.map (SB.ren q i)),(i,row)::drp (drp S.rw q) i⟩
def symXs(S:SS)(gs:Gs):List KX→Option (List SC)
 |[]=>some []
 |x::xs=>match symX S gs x with
  |some c=>(symXs S gs xs).map (c::·)
  |none=>none
def ownS(hint:List Nat)(d:Nat)(fl dp:Bool)(pl:List SE):Bs×Bool:=
 if fl=true then ([],true) else if dp=false then ([],false) else match pl with
  |[]=>([],true)
  |pl=>if hint.contains (1000 * d+pl.length) then ([(.npl,pl)],false) else ([(.pl,pl)],true)
def symSrc(S:SS)(k:Nat)(fl:Bool):SC→Option (SE×Bool×SS)
 | .b (.d e)=>some (e,fl,S)
 | .b (.nil _ _)=>some (.k (.nil k fl),true,S)
 | .b (.ref q)=>match look S.rw q with
  |some row=>if row.k=k∧row.fl=fl then some (row.e,(row.deep && !row.fz) ||fl,S.dropRow q) else none
  |none=>none
 |_=>none
def cutB(S:SS)(gs:Gs)(e:SE)(lo hi:Option KX):Option (PO×List SE):=
 match hi with
 |none=>match boundS S gs lo with
  |some l=>some (.cut false,[e,l])
  |none=>none
 |some h=>match boundS S gs lo,sD (symX S gs h) with
  |some l,some h=>some (.cut true,[e,l,h])
  |_,_=>none
def symN(hint:List Nat)(S:SS)(gs:Gs)(n:Nat)(d:Option Nat):KO→Option (Bs×SS)
 | .alloc zs=>match d,mapO constS zs with
  |some b,some xs=>some ([],(S.newBox b xs).put d ⟨[],.ptr b 0⟩)
  |_,_=>none
 | .box x=>match d,symX S gs x with
  |some b,some c=>match c.cells with
   |some xs=>if xs.all SB.cell=true then some ([],(S.newBox b (xs.map (SB.kill b))).put d ⟨[],.ptr b 0⟩) else none
   |none=>none
  |_,_=>none
 | .mkrow k fl xs=>match d,symXs S gs xs with
  |some r,some cs=>match symEmbs k S cs with
   |some p=>if 0 < k then (match ownS hint r fl p.2.2.1 p.2.1 with
    |(bs,deep)=>some (bs++[(.mkl k fl,p.1)],(p.2.2.2.newRow r ⟨.v (n+bs.length),k,fl,deep,true,false⟩).put d ⟨[],.b (.ref r)⟩)) else none
   |none=>none
  |_,_=>none
 | .make k by_ fl zs x=>match d,sD (symX S gs x),mapO skOf zs with
  |some r,some e,some ks=>some ([(.make k by_ fl ks,[e])],(S.newRow r ⟨.v n,k,fl,true,true,false⟩).put d ⟨[],.b (.ref r)⟩)
  |_,_,_=>none
 | .st m x y=>match symX S gs x,symX S gs y with
  |some (.ptr b o),some c=>match look S.bx b,c.cells with
   |some xs,some ys=>if ys.all SB.cell=true∧ys.length=m∧o+m≤xs.length then some ([],S.setBox b (splS xs o ys)) else none
   |_,_=>none
  |some (.ept r k i o),some c=>match c.cells with
   |some ys=>match symEmb S ys with
    |some p=>match look p.2.2.2.rw r with
     |some row=>if ys.all SB.cell=true∧row.k=k∧row.fz=false∧row.app=true∧p.1.length=m∧o+m≤k∧(p.2.2.1 ||!row.deep ||row.fl)=true then
       some (if row.fl ||!row.deep then ([(.set o,row.e::i::p.1)],p.2.2.2.setRow r ⟨.v n,row.k,row.fl,row.deep,row.app,row.fz⟩)
        else ([(.pl,p.2.1),(.set o,row.e::i::p.1)],p.2.2.2.setRow r ⟨.v (n+1),row.k,row.fl,row.deep,row.app,row.fz⟩)) else none
     |none=>none
    |none=>none
   |none=>none
  |_,_=>none
 | .app k by_ fl x y=>match d,symX S gs y with
  |some d0,some c=>match symSrc S k fl c with
   |some p=>match symX S gs x with
    |some (.b (.nil k' fl'))=>if k'=k∧fl'=fl then some ([(.app k by_,[.k (.nil k fl),p.1])],(p.2.2.newRow d0 ⟨.v n,k,fl,p.2.1,true,false⟩).put d ⟨[],.b (.ref d0)⟩) else none
    |some (.b (.ref r))=>match look p.2.2.rw r with
     |some row=>if row.k=k∧row.fl=fl∧row.app=true then some ([(.app k by_,[row.e,p.1])],(p.2.2.newRow r ⟨.v n,row.k,row.fl,row.deep && p.2.1,row.app,row.fz⟩).put d ⟨[],.b (.ref r)⟩) else none
     |none=>none
    |_=>none
   |none=>none
  |_,_=>none
 | .cut k x lo hi=>match d,symX S gs x with
  |some _,some (.b (.nil k' fl))=>match cutB S gs (.k (.nil k fl)) lo hi with
   |some b=>if k'=k then some ([b],S.put d ⟨[],.b (.nil k' fl)⟩) else none
   |none=>none
  |some _,some (.b (.ref r))=>match look S.rw r with
   |some row=>match cutB S gs row.e lo hi with
    |some b=>if row.k=k∧row.fz=false then some ([b],(S.newRow r ⟨.v n,row.k,row.fl,row.deep,row.app && lo.isNone,row.fz⟩).put d ⟨[],.b (.ref r)⟩) else none
    |none=>none
   |none=>none
  |_,_=>none
 | .cpy k x y=>match d,symX S gs x,sD (symX S gs y) with
  |some _,some (.b (.ref r)),some e=>match look S.rw r with
   |some row=>if row.k=k∧row.fl=true∧row.fz=false∧row.app=true then some ([(.cpy,[row.e,e]),(.len,[.v n])],(S.setRow r ⟨.v n,row.k,row.fl,row.deep,row.app,row.fz⟩).put d ⟨[],vN (n+1)⟩) else none
   |none=>none
  |_,_,_=>none
 | .mvr x=>match d,symX S gs x with
  |some d0,some (.b (.ref q))=>match look S.rw q with
   |some row=>some ([],(S.ren q (rid d0 0) row).put d ⟨[],.b (.ref (rid d0 0))⟩)
   |none=>none
  |some _,some (.b (.nil k fl))=>some ([],S.put d ⟨[],.b (.nil k fl)⟩)
  |some _,some (.b (.d e))=>some ([],S.put d ⟨[],.b (.d e)⟩)
  |_,_=>none
 | .jn x y=>match d,symX S gs x,symX S gs y with
  |some _,some (.b (.ref r)),some c=>match look S.rw r with
   |some row=>if row.k=1∧row.fl=true∧row.fz=false∧row.app=true then (match c with
    | .b (.d e)=>some ([(.jnl,[row.e,e]),(.jnb,[row.e,e])],(S.setRow r ⟨.v n,row.k,row.fl,row.deep,row.app,row.fz⟩).put d ⟨[],vN (n+1)⟩)
    | .b (.ref q)=>match look S.rw q with
     |some row'=>if row'.k=1∧q≠r then some ([(.jnl,[row.e,row'.e]),(.jnb,[row.e,row'.e])],(S.setRow r ⟨.v n,row.k,row.fl,row.deep,row.app,row.fz⟩).put d ⟨[],vN (n+1)⟩) else none
     |none=>none
    |_=>none) else none
   |none=>none
  |_,_,_=>none
 |_=>none
section
variable {ρ ρ':List D} {S S':SS} {s:St} {gs:Gs} {bs:Bs} {cf:Nat→List A→Option (List A×List A)} {mf:Nat→Bool→List D→Int→Option (List D×Int)} {hint:List Nat} {n:Nat} {d:Option Nat}
theorem runB_app:∀{bs cs:Bs} {ρ ρ':List D},runB ρ (bs++cs)=some ρ'→∃ρ1,runB ρ bs=some ρ1∧runB ρ1 cs=some ρ'
 |[],_,ρ,_,h=>⟨ρ,rfl,h⟩
 |(o,es)::bs,cs,ρ,ρ',h=>by
  simp only[List.cons_append,runB]at h ⊢
  split at h
  ·rename_i xs hx
   split at h
   ·rename_i x hy;obtain⟨ρ1,h1,h2⟩:=runB_app h;exact⟨ρ1,h1,h2⟩
   ·cases h
  ·cases h
theorem runB_len:∀{bs:Bs} {ρ ρ':List D},runB ρ bs=some ρ'→ρ'.length=ρ.length+bs.length
 |[],ρ,_,h=>by cases h;rfl
 |(o,es)::bs,ρ,ρ',h=>by
  simp only[runB]at h
  split at h
  ·split at h
   ·have:=runB_len h;simp only[List.length_append,List.length_cons,List.length_nil]at this ⊢;omega
   ·cases h
  ·cases h
theorem SCrs.mono(τ:List D):∀{cs:List SC} {vs:List C},SCrs ρ cs vs→SCrs (ρ++τ) cs vs
 |[],_,h=>h
 |_::_,_,⟨v,vs,h1,h2,h3⟩=>⟨v,vs,h1,h2.mono τ,h3.mono τ⟩
theorem symXs_rel(h:Rel ρ S s)(hg:gsO ρ gs=some true):∀{xs:List KX} {cs:List SC},symXs S gs xs=some cs→SCrs ρ cs (xs.map (evX s))
 |[],_,h=>by cases h;rfl
 |x::xs,_,hs=>by
  simp only[symXs]at hs
  split at hs
  ·rename_i c hc;obtain⟨cs,h1,rfl⟩:=Option.map_eq_some_iff.1 hs;exact⟨_,_,rfl,symX_rel h hg hc,symXs_rel h hg h1⟩
  ·cases hs
theorem row_new(hn:n=ρ.length){x:D}{k:Nat}{fl:Bool}{es:List (List D)}(hx:x=.list k fl es){a b c:Bool}:SRr (ρ++[x]) ⟨.v n,k,fl,a,b,c⟩ ⟨es,k,fl,a,b,c⟩:=by
 subst hn hx;exact⟨es,nth_new ρ _ [],rfl⟩
theorem SGr.ref{r:Nat}:SGr ρ ⟨[],.b (.ref r)⟩ (.ref r):=SGr.nil (by simp only[SCr,SBr])
theorem SGr.ptr{b o:Nat}:SGr ρ ⟨[],.ptr b o⟩ (.ptr b o):=SGr.nil (by simp only[SCr])
theorem SGr.new(hn:n=ρ.length){x:D}:SGr (ρ++[x]) ⟨[],vN n⟩ (.d x):=by
 subst hn;exact SGr.nil ⟨x,nth_new ρ _ [],rfl⟩
theorem constS_const{z:C}{x:SB}(h:constS z=some x):z.const=true:=by
 unfold constS at h
 split at h<;>first|rfl|cases h
theorem consts_const:∀{zs:List C} {xs:List SB},mapO constS zs=some xs→zs.all C.const=true
 |[],_,_=>rfl
 |z::zs,xs,h=>by
  simp only[mapO]at h
  split at h
  ·rename_i y hy;obtain⟨ys,h1,rfl⟩:=Option.map_eq_some_iff.1 h;simp only[List.all_cons,constS_const hy,consts_const h1,Bool.and_self]
  ·cases h
theorem symN_alloc(h:Rel ρ S s){zs:List C}(hs:symN hint S gs n d (.alloc zs)=some (bs,S'))(hb:runB ρ bs=some ρ'):∃s',evN cf mf s d (.alloc zs)=some s'∧Rel ρ' S' s':=by
 simp only[symN]at hs
 split at hs
 ·rename_i b xs hz;simp only[Option.some.injEq,Prod.mk.injEq]at hs;obtain⟨rfl,rfl⟩:=hs;cases hb;exact⟨_,by simp only[evN,consts_const hz,if_true],(h.newBox b (consts_rel hz)).put _ SGr.ptr⟩
 ·cases hs
theorem symN_box(h:Rel ρ S s)(hg:gsO ρ gs=some true){x:KX}(hs:symN hint S gs n d (.box x)=some (bs,S'))(hb:runB ρ bs=some ρ'):∃s',evN cf mf s d (.box x)=some s'∧Rel ρ' S' s':=by
 simp only[symN]at hs
 split at hs
 ·rename_i b c hx
  split at hs
  ·rename_i xs hc
   split at hs
   ·rename_i hcl;simp only[Option.some.injEq,Prod.mk.injEq]at hs;obtain⟨rfl,rfl⟩:=hs;cases hb;have hr:=(symX_rel h hg hx).cells hc hcl;exact⟨_,by simp only[evN,hr.cell hcl,if_true],(h.newBox b (hr.kill b)).put _ SGr.ptr⟩
   ·cases hs
  ·cases hs
 ·cases hs
theorem symEmbs_len{k:Nat}:∀{cs:List SC} {S S':SS} {es pl:List SE} {dp:Bool},symEmbs k S cs=some (es,pl,dp,S')→es.length=k * cs.length
 |[],_,_,_,_,_,h=>by
  simp only[symEmbs,Option.some.injEq,Prod.mk.injEq]at h;obtain⟨rfl,_⟩:=h;rfl
 |c::cs,_,_,_,_,_,hs=>by
  simp only[symEmbs]at hs
  split at hs
  ·split at hs
   ·split at hs
    ·split at hs
     ·rename_i hk;obtain⟨⟨a1,a2,a3,a4⟩,h4,h5⟩:=Option.map_eq_some_iff.1 hs;simp only[Prod.mk.injEq]at h5;obtain⟨rfl,_⟩:=h5;rw[List.length_append,hk,symEmbs_len h4,List.length_cons,Nat.mul_succ,Nat.add_comm]
     ·cases hs
    ·cases hs
   ·cases hs
  ·cases hs
theorem embs_plain{k:Nat}{fl:Bool}:∀{cs:List C} {s s':St} {es:List (List D)} {dp:Bool},embs k fl s cs=some (es,dp,s')→fl=true→dp=true
 |[],_,_,_,_,h,_=>by simp only[embs,Option.some.injEq,Prod.mk.injEq]at h;exact h.2.1.symm
 |c::cs,_,_,_,_,h,hf=>by
  simp only[embs]at h
  split at h
  ·rename_i ds dp1 s1 he
   split at h
   ·rename_i hk;obtain⟨⟨a1,a2,a3⟩,h4,h5⟩:=Option.map_eq_some_iff.1 h;simp only[Prod.mk.injEq]at h5;obtain⟨rfl,rfl,rfl⟩:=h5;rw[embs_plain h4 hf,emb_plain he (hk.2 hf)];rfl
   ·cases h
  ·cases h
theorem ownS_ok{r:Nat}{fl dp deep:Bool}{pl:List SE}{ps τ:List D}(ho:ownS hint r fl dp pl=(bs,deep))(hb:runB ρ bs=some ρ')(hp:evE (ρ++τ) pl=some ps):deep=(fl ||(dp && plains ps)):=by
 unfold ownS at ho
 split at ho
 ·rename_i hf;cases ho;simp[hf]
 ·rename_i hf;have hf:fl=false:=by simpa using hf
  subst hf
  split at ho
  ·rename_i hd;cases ho;simp[hd]
  ·rename_i hd;have hd:dp=true:=by simpa using hd
   subst hd
   split at ho
   ·cases ho;cases hp;rfl
   ·split at ho
    ·cases ho;obtain⟨xs,x,h1,h2,rfl⟩:=runB_one hb;rw[evE_mono τ h1]at hp;cases hp;simp only[evPO]at h2
     split at h2
     ·cases h2
     ·rename_i hn;simpa using hn
    ·cases ho;obtain⟨xs,x,h1,h2,rfl⟩:=runB_one hb;rw[evE_mono τ h1]at hp;cases hp;simp only[evPO]at h2
     split at h2
     ·rename_i hn;simpa using hn
     ·cases h2
theorem symN_mkrow(h:Rel ρ S s)(hg:gsO ρ gs=some true)(hn:n=ρ.length){k:Nat}{fl:Bool}{xs:List KX}(hs:symN hint S gs n d (.mkrow k fl xs)=some (bs,S'))(hb:runB ρ bs=some ρ'):∃s',evN cf mf s d (.mkrow k fl xs)=some s'∧Rel ρ' S' s':=by
 simp only[symN]at hs
 split at hs
 ·rename_i r cs hx
  split at hs
  ·rename_i p hp;obtain⟨es,pl,dp,S1⟩:=p;simp only at hs
   split at hs
   ·rename_i hk;generalize ho:ownS hint r fl dp pl=q at hs;obtain⟨bs0,deep⟩:=q;simp only[Option.some.injEq,Prod.mk.injEq]at hs;obtain⟨rfl,rfl⟩:=hs;obtain⟨ρ1,hb1,hb2⟩:=runB_app hb;obtain⟨xs',x,h1,h2,rfl⟩:=runB_one hb2;obtain⟨τ,rfl⟩:=runB_ext hb1;have hl:=runB_len hb1;have hr:=symXs_rel h hg hx;simp only[evPO]at h2
    split at h2
    ·split at h2
     ·rename_i ess hc
      split at h2
      ·rename_i hf;cases h2;have hlen:xs'.length=k * cs.length:=by rw[evE_map h1,symEmbs_len hp]
       rw[hlen,Nat.mul_div_cancel_left _ hk]at hc;obtain⟨ps,s',g1,g2,g3⟩:=embs_sym (fl:=fl) (h.mono τ) (hr.mono τ) hp h1 hc hf;have hd:=ownS_ok ho hb1 g2;have hdp:(dp && plains ps)=deep:=by
        cases fl with
        |true=>rw[embs_plain g1 rfl,hd];rfl
        |false=>rw[hd,Bool.false_or]
       rw[hdp]at g1;refine⟨_,by simp only[evN,g1];rw[if_pos hk],((g3.mono [_]).newRow r (row_new (by rw[hn,hl]) rfl)).put _ SGr.ref⟩
      ·cases h2
     ·cases h2
    ·cases h2
   ·cases hs
  ·cases hs
 ·cases hs
theorem sks_ok:∀{zs:List D} {ks:List SK},mapO skOf zs=some ks→ks.map SK.d=zs
 |[],_,h=>by cases h;rfl
 |z::zs,ks,h=>by
  simp only[mapO]at h
  split at h
  ·rename_i y hy;obtain⟨ys,h1,rfl⟩:=Option.map_eq_some_iff.1 h;rw[List.map_cons,sks_ok h1];unfold skOf at hy
   split at hy<;>cases hy<;>rfl
  ·cases h
theorem evPO_make{k by_:Nat}{fl:Bool}{zs:List SK}{xs:List D}{x:D}(h:evPO (.make k by_ fl zs) xs=some x):∃m,xs=[.int .i64 m]∧(0≤m∧m.toNat * by_≤room∧m≤4611686018427387904)∧x=.list k fl (List.replicate m.toNat (zs.map SK.d)):=by
 rcases xs with _|⟨a,_|⟨b,l⟩⟩
 ·simp[evPO]at h
 ·cases a with
  |int ik m=>
   cases ik<;>simp only[evPO]at h<;>try cases h
   split at h
   ·rename_i hc;cases h;exact⟨m,rfl,hc,rfl⟩
   ·cases h
  |_=>simp[evPO]at h
 ·simp[evPO]at h
theorem evPO_app{k by_:Nat}{xs:List D}{x:D}(h:evPO (.app k by_) xs=some x):∃fl es es',xs=[.list k fl es,.list k fl es']∧(es.length+es'.length) * by_≤room∧es.length+es'.length≤maxLen∧x=.list k fl (es++es'):=by
 rcases xs with _|⟨a,_|⟨b,_|⟨c,l⟩⟩⟩
 ·simp[evPO]at h
 ·cases a<;>simp[evPO]at h
 ·cases a<;>cases b<;>simp only[evPO]at h<;>try cases h
  split at h
  ·rename_i hc;obtain⟨rfl,rfl,rfl,h1,h2⟩:=hc;cases h;exact⟨_,_,_,rfl,h1,h2,rfl⟩
  ·cases h
 ·cases a<;>cases b<;>simp[evPO]at h
theorem evPO_set{o:Nat}{xs:List D}{x:D}(h:evPO (.set o) xs=some x):∃k fl es i ds e,xs=.list k fl es::.int .i64 i::ds∧nth es i.toNat=some e∧o+ds.length≤k∧(fl=true→plains ds=true)∧x=.list k fl (es.set i.toNat (splC e o ds)):=by
 rcases xs with _|⟨a,_|⟨b,l⟩⟩
 ·simp[evPO]at h
 ·cases a<;>simp[evPO]at h
 ·cases a with
  |list k fl es=>
   cases b with
   |int ik i=>
    cases ik<;>simp only[evPO]at h<;>try cases h
    split at h
    ·rename_i e he
     split at h
     ·rename_i hc;cases h;exact⟨_,_,_,_,_,_,rfl,he,hc.1,hc.2,rfl⟩
     ·cases h
    ·cases h
   |_=>simp[evPO]at h
  |_=>simp[evPO]at h
theorem evPO_cpy{xs:List D}{x:D}(h:evPO .cpy xs=some x):∃k es es',xs=[.list k true es,.list k true es']∧es'.length=es.length∧x=.list k true es':=by
 rcases xs with _|⟨a,_|⟨b,_|⟨c,l⟩⟩⟩
 ·simp[evPO]at h
 ·cases a<;>simp[evPO]at h
 ·cases a<;>cases b<;>simp only[evPO]at h<;>try cases h
  split at h
  ·rename_i hc;obtain⟨rfl,rfl,rfl,h1⟩:=hc;cases h;exact⟨_,_,_,rfl,h1,rfl⟩
  ·cases h
 ·cases a<;>cases b<;>simp[evPO]at h
theorem evPO_jnl{xs:List D}{x:D}(h:evPO .jnl xs=some x):∃es fl' es' bs cs,xs=[.list 1 true es,.list 1 fl' es']∧es'.length=es.length∧es'≠[]∧bools es=some bs∧bools es'=some cs∧x=.list 1 true ((joinB bs cs).map fun b=>[D.bool b]):=by
 rcases xs with _|⟨a,_|⟨b,_|⟨c,l⟩⟩⟩
 ·simp[evPO]at h
 ·cases a<;>simp[evPO]at h
 ·cases a<;>cases b<;>simp only[evPO]at h<;>try cases h
  split at h
  ·rename_i hc;obtain⟨rfl,rfl,rfl,h1,h2⟩:=hc
   split at h
   ·rename_i bs cs hb hcs;cases h;exact⟨_,_,_,_,_,rfl,h1,h2,hb,hcs,rfl⟩
   ·cases h
  ·cases h
 ·cases a<;>cases b<;>simp[evPO]at h
theorem evPO_jnb{xs:List D}{x:D}(h:evPO .jnb xs=some x):∃k fl es k' fl' es' bs cs,xs=[.list k fl es,.list k' fl' es']∧bools es=some bs∧bools es'=some cs∧x=.bool (grewB bs cs):=by
 rcases xs with _|⟨a,_|⟨b,_|⟨c,l⟩⟩⟩
 ·simp[evPO]at h
 ·cases a<;>simp[evPO]at h
 ·cases a<;>cases b<;>simp only[evPO]at h<;>try cases h
  split at h
  ·rename_i bs cs hb hcs;cases h;exact⟨_,_,_,_,_,_,_,_,rfl,hb,hcs,rfl⟩
  ·cases h
 ·cases a<;>cases b<;>simp[evPO]at h
theorem evPO_len{xs:List D}{x:D}(h:evPO .len xs=some x):∃k fl es,xs=[.list k fl es]∧x=.int .i64 es.length:=by
 rcases xs with _|⟨a,_|⟨b,l⟩⟩
 ·simp[evPO]at h
 ·cases a<;>simp only[evPO]at h<;>cases h
  exact⟨_,_,_,rfl,rfl⟩
 ·cases a<;>simp[evPO]at h
theorem symN_make(h:Rel ρ S s)(hg:gsO ρ gs=some true)(hn:n=ρ.length){k by_:Nat}{fl:Bool}{zs:List D}{x:KX}(hs:symN hint S gs n d (.make k by_ fl zs x)=some (bs,S'))(hb:runB ρ bs=some ρ'):∃s',evN cf mf s d (.make k by_ fl zs x)=some s'∧Rel ρ' S' s':=by
 simp only[symN]at hs
 split at hs
 ·rename_i r e ks hx hz;simp only[Option.some.injEq,Prod.mk.injEq]at hs;obtain⟨rfl,rfl⟩:=hs;obtain⟨xs',x',h1,h2,rfl⟩:=runB_one hb;obtain⟨a,h3,rfl⟩:=evE_one h1;obtain⟨a',h4,h5⟩:=sD_rel h hg hx;rw[h3]at h4;cases h4;obtain⟨m,hm,hc,rfl⟩:=evPO_make h2;cases hm;refine⟨_,by simp only[evN,h5];rw[if_pos hc],((h.mono [_]).newRow r (row_new hn (by rw[sks_ok hz]))).put _ SGr.ref⟩
 ·cases hs
theorem SCr.cells'{x:SC}{c:C}{xs:List SB}(h:SCr ρ x c)(hx:x.cells=some xs)(hc:xs.all SB.cell=true):SBrs ρ xs c.cells∧c.cells.all C.cell=true:=⟨h.cells hx hc,(h.cells hx hc).cell hc⟩
theorem symN_st(h:Rel ρ S s)(hg:gsO ρ gs=some true)(hn:n=ρ.length){m:Nat}{x y:KX}(hs:symN hint S gs n d (.st m x y)=some (bs,S'))(hb:runB ρ bs=some ρ'):∃s',evN cf mf s d (.st m x y)=some s'∧Rel ρ' S' s':=by
 simp only[symN]at hs
 split at hs
 ·rename_i b o c hx hy
  split at hs
  ·rename_i xs ys hl hc
   split at hs
   ·rename_i hk;obtain⟨k1,k2,k3⟩:=hk;simp only[Option.some.injEq,Prod.mk.injEq]at hs;obtain⟨rfl,rfl⟩:=hs;cases hb;have hr:=symX_rel h hg hx;simp only[SCr]at hr;obtain⟨cs,g1,g2⟩:=h.bx b xs hl;obtain⟨g3,g4⟩:=(symX_rel h hg hy).cells' hc k1;refine⟨_,by simp only[evN,hr,g1];rw[if_pos ⟨g4,by rw[g3.len,k2],by rw[g2.len];exact k3⟩],h.setBox b (g2.spl o g3)⟩
   ·cases hs
  ·cases hs
 ·rename_i r k i o c hx hy;obtain⟨iv,hi,hr⟩:=symX_rel h hg hx
  split at hs
  ·rename_i ys hc
   split at hs
   ·rename_i p hp;obtain⟨es,pl,dp,S1⟩:=p;simp only at hs
    split at hs
    ·rename_i row hl
     split at hs
     ·rename_i hk;obtain⟨k1,k2,k3,k4,k5,k6,k7⟩:=hk;obtain⟨g3,g4⟩:=(symX_rel h hg hy).cells' hc k1;obtain⟨ds,ps,s1,q1,q2,q3,q4⟩:=emb_sym h g3 hp;obtain⟨z,w1,ess,w2,rfl⟩:=q4.rw r row hl;have key:∀{σ:List D} {xs:List D} {v:D},evE (ρ++σ) (row.e::i::es)=some xs→evPO (.set o) xs=some v→∃e,nth ess iv.toNat=some e∧o+ds.length≤row.k∧(row.fl=true→plains ds=true)∧v=.list row.k row.fl (ess.set iv.toNat (splC e o ds)):=by
       intro σ xs v h1 h2;obtain⟨a,ys',j1,j2,rfl⟩:=evE_cons h1;obtain⟨b,zs',j3,j4,rfl⟩:=evE_cons j2;rw[SE.mono σ w2]at j1;cases j1;rw[SE.mono σ hi]at j3;cases j3;rw[evE_mono σ q2]at j4;cases j4;obtain⟨k',fl',es',i',ds',e,t1,t2,t3,t4,rfl⟩:=evPO_set h2;simp only[List.cons.injEq,D.list.injEq,D.int.injEq,true_and]at t1;obtain⟨⟨rfl,rfl,rfl⟩,rfl,rfl⟩:=t1;exact⟨e,t2,t3,t4,rfl⟩
      split at hs
      ·rename_i hf;simp only[Option.some.injEq,Prod.mk.injEq]at hs;obtain⟨rfl,rfl⟩:=hs;obtain⟨xs',v,h1,h2,rfl⟩:=runB_one hb;obtain⟨e,t1,t2,t3,rfl⟩:=key (σ:=[]) (by simpa using h1) h2;refine⟨_,by
        simp only[evN,hr,q1,w1,t1];rw[if_pos ⟨k2,k3,k4,by rw[evE_map q2,k5],k6,t3,by
         cases hfl:row.fl with
         |true=>rw[emb_plain q1 (t3 hfl)];rfl
         |false=>rw[hfl,Bool.false_or]at hf;rw[hf,Bool.or_true]⟩],?_⟩
       exact (q4.mono [_]).setRow r (row_new hn rfl)
      ·rename_i hf;simp only[Option.some.injEq,Prod.mk.injEq]at hs;obtain⟨rfl,rfl⟩:=hs;obtain⟨ρ1,hb1,hb2⟩:=runB_app (bs:=[_]) (cs:=[_]) hb;obtain⟨xs1,v1,f1,f2,rfl⟩:=runB_one hb1;obtain⟨xs',v,h1,h2,rfl⟩:=runB_one hb2;obtain⟨e,t1,t2,t3,rfl⟩:=key h1 h2;rw[q3]at f1;cases f1;simp only[evPO]at f2
       split at f2
       ·rename_i hpl;refine⟨_,by
         simp only[evN,hr,q1,w1,t1];rw[if_pos ⟨k2,k3,k4,by rw[evE_map q2,k5],k6,t3,by
          rw[hpl,Bool.and_true];cases dp with
          |true=>rfl
          |false=>
           simp only[Bool.not_eq_true,Bool.or_eq_false_iff]at hf;simp only[hf.1,hf.2,Bool.or_self,Bool.false_eq_true]at k7⟩],?_⟩
        exact (q4.mono [_] |>.mono [_]).setRow r (row_new (by rw[hn];simp) rfl)
       ·cases f2
     ·cases hs
    ·cases hs
   ·cases hs
  ·cases hs
 ·cases hs
theorem symSrc_ok(h:Rel ρ S s){k:Nat}{fl:Bool}{c:SC}{v:C}{e:SE}{dp:Bool}{S1:SS}(hv:SCr ρ c v)(hs:symSrc S k fl c=some (e,dp,S1)):∃x s1,e.d ρ=some x∧Rel ρ S1 s1∧∀es,x=.list k fl es→appSrc s k fl v=some (es,dp,s1):=by
 unfold symSrc at hs
 split at hs
 ·cases hs;obtain⟨x,h1,rfl⟩:=hv;refine⟨x,s,h1,h,?_⟩
  rintro es rfl
  simp[appSrc]
 ·cases hs;simp only[SCr,SBr]at hv;subst hv;refine⟨_,s,rfl,h,?_⟩;intro es he;cases he;simp[appSrc]
 ·split at hs
  ·rename_i row hl
   split at hs
   ·rename_i hk;obtain⟨rfl,rfl⟩:=hk;cases hs;simp only[SCr,SBr]at hv;subst hv;obtain⟨z,w1,ess,w2,rfl⟩:=h.rw _ row hl;refine⟨_,_,w2,h.dropRow _,?_⟩;intro es he;cases he;simp[appSrc,w1]
   ·cases hs
  ·cases hs
 ·cases hs
theorem symN_app(h:Rel ρ S s)(hg:gsO ρ gs=some true)(hn:n=ρ.length){k by_:Nat}{fl:Bool}{x y:KX}(hs:symN hint S gs n d (.app k by_ fl x y)=some (bs,S'))(hb:runB ρ bs=some ρ'):∃s',evN cf mf s d (.app k by_ fl x y)=some s'∧Rel ρ' S' s':=by
 simp only[symN]at hs
 split at hs
 ·rename_i d0 c hy
  split at hs
  ·rename_i p hp;obtain⟨e,dp,S1⟩:=p;simp only at hs
   obtain⟨v,s1,j1,q2,j2⟩:=symSrc_ok h (symX_rel h hg hy) hp
   split at hs
   ·rename_i k' fl' hx;have hr:=symX_rel h hg hx;simp only[SCr,SBr]at hr
    split at hs
    ·rename_i hk;obtain⟨rfl,rfl⟩:=hk;simp only[Option.some.injEq,Prod.mk.injEq]at hs;obtain⟨rfl,rfl⟩:=hs;obtain⟨xs',v',h1,h2,rfl⟩:=runB_one hb;obtain⟨a,ys',f1,f2,rfl⟩:=evE_cons h1;obtain⟨b,f3,rfl⟩:=evE_one f2;rw[j1]at f3;cases f3;simp only[SE.d,SK.d,Option.some.injEq]at f1;subst f1;obtain⟨fl,es,es',t1,t2,t3,rfl⟩:=evPO_app h2;simp only[List.cons.injEq,D.list.injEq,true_and,and_true]at t1;obtain⟨⟨rfl,rfl⟩,rfl⟩:=t1;have q1:=j2 es' rfl;simp only[List.length_nil,Nat.zero_add]at t2 t3;refine⟨_,by simp only[evN,q1,hr];rw[if_pos ⟨trivial,trivial,t2,t3⟩],?_⟩;exact ((q2.mono [_]).newRow d0 (row_new hn (by simp))).put _ SGr.ref
    ·cases hs
   ·rename_i r hx;have hr:=symX_rel h hg hx;simp only[SCr,SBr]at hr
    split at hs
    ·rename_i row hl
     split at hs
     ·rename_i hk;obtain⟨rfl,rfl,k3⟩:=hk;simp only[Option.some.injEq,Prod.mk.injEq]at hs;obtain⟨rfl,rfl⟩:=hs;obtain⟨xs',v',h1,h2,rfl⟩:=runB_one hb;obtain⟨a,ys',f1,f2,rfl⟩:=evE_cons h1;obtain⟨b,f3,rfl⟩:=evE_one f2;rw[j1]at f3;cases f3;obtain⟨fl,es,es',t1,t2,t3,rfl⟩:=evPO_app h2;simp only[List.cons.injEq,and_true]at t1;obtain⟨rfl,rfl⟩:=t1;obtain⟨z,w1,ess,w2,rfl⟩:=q2.rw r row hl;rw[f1]at w2;cases w2;have q1:=j2 es' rfl;refine⟨_,by simp only[evN,q1,hr,w1];rw[if_pos ⟨trivial,trivial,k3,t2,t3⟩],?_⟩;exact ((q2.mono [_]).newRow r (row_new hn rfl)).put _ SGr.ref
     ·cases hs
    ·cases hs
   ·cases hs
  ·cases hs
 ·cases hs
theorem cutB_ok(h:Rel ρ S s)(hg:gsO ρ gs=some true){e:SE}{lo hi:Option KX}{b:PO×List SE}(hs:cutB S gs e lo hi=some b){k:Nat}{fl:Bool}{es:List (List D)}(he:e.d ρ=some (.list k fl es))(hb:runB ρ [b]=some ρ'):∃x y,optI s lo 0=some x∧optI s hi es.length=some y∧x≤y∧y≤es.length∧ρ'=ρ++[.list k fl ((es.take y).drop x)]:=by
 unfold cutB at hs
 split at hs
 ·split at hs
  ·rename_i l hl;cases hs;obtain⟨xs',v,h1,h2,rfl⟩:=runB_one hb;obtain⟨a,ys',f1,f2,rfl⟩:=evE_cons h1;obtain⟨b,f3,rfl⟩:=evE_one f2;rw[he]at f1;cases f1;simp only[evPO]at h2
   split at h2
   ·rename_i x hx
    split at h2
    ·rename_i hle;cases h2;refine⟨x,es.length,symB h hg hl f3 hx 0 (fun _=>rfl),rfl,hle,Nat.le_refl _,by rw[List.take_length]⟩
    ·cases h2
   ·cases h2
  ·cases hs
 ·rename_i hh
  split at hs
  ·rename_i l y hl hy;cases hs;obtain⟨xs',v,h1,h2,rfl⟩:=runB_one hb;obtain⟨a,ys',f1,f2,rfl⟩:=evE_cons h1;obtain⟨b,zs',f3,f4,rfl⟩:=evE_cons f2;obtain⟨c,f5,rfl⟩:=evE_one f4;rw[he]at f1;cases f1;simp only[evPO]at h2
   split at h2
   ·rename_i x y' hx hy'
    split at h2
    ·rename_i hle;cases h2;refine⟨x,y',symB h hg hl f3 hx 0 (fun _=>rfl),symB (lo:=some hh) h hg hy f5 hy' _ (fun h=>by cases h),hle.1,hle.2,rfl⟩
    ·cases h2
   ·cases h2
  ·cases hs
theorem symN_cut(h:Rel ρ S s)(hg:gsO ρ gs=some true)(hn:n=ρ.length){k:Nat}{x:KX}{lo hi:Option KX}(hs:symN hint S gs n d (.cut k x lo hi)=some (bs,S'))(hb:runB ρ bs=some ρ'):∃s',evN cf mf s d (.cut k x lo hi)=some s'∧Rel ρ' S' s':=by
 simp only[symN]at hs
 split at hs
 ·rename_i d0 k' fl hx;have hr:=symX_rel h hg hx;simp only[SCr,SBr]at hr
  split at hs
  ·rename_i b hc
   split at hs
   ·rename_i hk;subst hk;simp only[Option.some.injEq,Prod.mk.injEq]at hs;obtain⟨rfl,rfl⟩:=hs;obtain⟨a,b',q1,q2,q3,q4,rfl⟩:=cutB_ok (es:=[]) h hg hc rfl hb;simp only[List.length_nil,Nat.le_zero]at q4 q2;subst q4;simp only[Nat.le_zero]at q3;subst q3;refine⟨_,by simp only[evN,hr,q1,q2];rw[if_pos ⟨trivial,trivial,trivial⟩],(h.mono _).put _ (SGr.nil (by simp only[SCr,SBr]))⟩
   ·cases hs
  ·cases hs
 ·rename_i d0 r hx;have hr:=symX_rel h hg hx;simp only[SCr,SBr]at hr
  split at hs
  ·rename_i row hl;obtain⟨z,w1,ess,w2,rfl⟩:=h.rw r row hl
   split at hs
   ·rename_i b hc
    split at hs
    ·rename_i hk;simp only[Option.some.injEq,Prod.mk.injEq]at hs;obtain⟨rfl,rfl⟩:=hs;obtain⟨a,b',q1,q2,q3,q4,rfl⟩:=cutB_ok h hg hc w2 hb;refine⟨_,by simp only[evN,hr,w1,q1,q2];rw[if_pos ⟨hk.1,q3,q4,hk.2⟩],?_⟩;exact ((h.mono [_]).newRow r (row_new hn rfl)).put _ SGr.ref
    ·cases hs
   ·cases hs
  ·cases hs
 ·cases hs
theorem symN_cpy(h:Rel ρ S s)(hg:gsO ρ gs=some true)(hn:n=ρ.length){k:Nat}{x y:KX}(hs:symN hint S gs n d (.cpy k x y)=some (bs,S'))(hb:runB ρ bs=some ρ'):∃s',evN cf mf s d (.cpy k x y)=some s'∧Rel ρ' S' s':=by
 simp only[symN]at hs
 split at hs
 ·rename_i d0 r e hx hy;have hr:=symX_rel h hg hx;simp only[SCr,SBr]at hr;obtain⟨v,j1,j2⟩:=sD_rel h hg hy
  split at hs
  ·rename_i row hl;obtain⟨z,w1,ess,w2,rfl⟩:=h.rw r row hl
   split at hs
   ·rename_i hk;obtain⟨k1,k2,k3,k4⟩:=hk;simp only[Option.some.injEq,Prod.mk.injEq]at hs;obtain⟨rfl,rfl⟩:=hs;obtain⟨ρ1,hb1,hb2⟩:=runB_app (bs:=[_]) (cs:=[_]) hb;obtain⟨xs1,v1,f1,f2,rfl⟩:=runB_one hb1;obtain⟨xs',v',h1,h2,rfl⟩:=runB_one hb2;obtain⟨a,ys',t1,t2,rfl⟩:=evE_cons f1;obtain⟨b,t3,rfl⟩:=evE_one t2;rw[w2]at t1;cases t1;rw[j1]at t3;cases t3;obtain⟨k',es,es',i1,i2,rfl⟩:=evPO_cpy f2;simp only[List.cons.injEq,D.list.injEq,and_true]at i1;obtain⟨⟨i3,i4,rfl⟩,rfl⟩:=i1;obtain⟨c,c1,rfl⟩:=evE_one h1;obtain⟨k2',fl2,es2,m1,rfl⟩:=evPO_len h2;simp only[SE.d,hn,nth_new,Option.some.injEq]at c1;subst c1;simp only[List.cons.injEq,D.list.injEq,and_true]at m1;obtain⟨rfl,rfl,rfl⟩:=m1;refine⟨_,by simp only[evN,hr,j2,w1];rw[if_pos ⟨k1,by rw[← i3,k1],trivial,k2,k3,k4,i2⟩],?_⟩;refine Rel.put ?_ _ (SGr.new (by rw[hn];simp));exact ((h.mono [_]).setRow r (row_new hn (by rw[i3,i4]))).mono [_]
   ·cases hs
  ·cases hs
 ·cases hs
theorem symN_jn(h:Rel ρ S s)(hg:gsO ρ gs=some true)(hn:n=ρ.length){x y:KX}(hs:symN hint S gs n d (.jn x y)=some (bs,S'))(hb:runB ρ bs=some ρ'):∃s',evN cf mf s d (.jn x y)=some s'∧Rel ρ' S' s':=by
 simp only[symN]at hs
 split at hs
 ·rename_i d0 r c hx hy;have hr:=symX_rel h hg hx;simp only[SCr,SBr]at hr;have hry:=symX_rel h hg hy
  split at hs
  ·rename_i row hl;obtain⟨z,w1,ess,w2,rfl⟩:=h.rw r row hl
   split at hs
   ·rename_i hk;obtain⟨k1,k2,k3,k4⟩:=hk;have key:∀{e:SE} {v:D},e.d ρ=some v→(∀fl' es',v=.list 1 fl' es'→jnSrc s r (evX s y)=some es')→runB ρ [(.jnl,[row.e,e]),(.jnb,[row.e,e])]=some ρ'→S'=(S.setRow r ⟨.v n,row.k,row.fl,row.deep,row.app,row.fz⟩).put (some d0) ⟨[],vN (n+1)⟩→∃s',evN cf mf s (some d0) (.jn x y)=some s'∧Rel ρ' S' s':=by
     rintro e v j1 hsrc hb rfl
     obtain⟨ρ1,hb1,hb2⟩:=runB_app (bs:=[_]) (cs:=[_]) hb;obtain⟨xs1,v1,f1,f2,rfl⟩:=runB_one hb1;obtain⟨xs',v',h1,h2,rfl⟩:=runB_one hb2;obtain⟨a,ys',t1,t2,rfl⟩:=evE_cons f1;obtain⟨b,t3,rfl⟩:=evE_one t2;rw[w2]at t1;cases t1;rw[j1]at t3;cases t3;obtain⟨es,fl',es',bs,cs,i1,i2,i3,i4,i5,rfl⟩:=evPO_jnl f2;simp only[List.cons.injEq,D.list.injEq,and_true]at i1;obtain⟨⟨_,_,rfl⟩,rfl⟩:=i1;obtain⟨a,ys',t1,t2,rfl⟩:=evE_cons h1;obtain⟨b,t3,rfl⟩:=evE_one t2;rw[SE.mono _ w2]at t1;cases t1;rw[SE.mono _ j1]at t3;cases t3;obtain⟨_,_,es2,_,_,es2',bs',cs',m1,m2,m3,rfl⟩:=evPO_jnb h2;simp only[List.cons.injEq,D.list.injEq,and_true]at m1;obtain⟨⟨_,_,rfl⟩,⟨_,_,rfl⟩⟩:=m1;rw[i4]at m2;cases m2;rw[i5]at m3;cases m3;refine⟨_,by simp only[evN,hr,hsrc fl' es' rfl,w1];rw[if_pos ⟨k1,k2,k3,k4,i2⟩];simp only[i4,i5];rw[if_pos i3],?_⟩;refine Rel.put ?_ _ (SGr.new (by rw[hn];simp));exact ((h.mono [_]).setRow r (row_new hn (by rw[k1,k2]))).mono [_]
    split at hs
    ·rename_i e;simp only[Option.some.injEq,Prod.mk.injEq]at hs;obtain⟨rfl,hS⟩:=hs;obtain⟨v,j1,j2⟩:=hry;exact key j1 (fun fl' es' he=>by rw[j2,he];rfl) hb hS.symm
    ·rename_i q
     split at hs
     ·rename_i row' hl'
      split at hs
      ·rename_i hq;simp only[Option.some.injEq,Prod.mk.injEq]at hs;obtain⟨rfl,hS⟩:=hs;simp only[SCr,SBr]at hry;obtain⟨z',w1',ess',w2',rfl⟩:=h.rw q row' hl';refine key w2' (fun fl' es' he=>?_) hb hS.symm
       injection he with e1 e2 e3
       subst e3;simp only[hry,jnSrc,w1'];rw[if_pos hq]
      ·cases hs
     ·cases hs
    ·cases hs
   ·cases hs
  ·cases hs
 ·cases hs
theorem SBr.ren(q i:Nat):∀{x:SB} {c:C},SBr ρ x c→SBr ρ (x.ren q i) (c.ren q i)
 | .d e,_,⟨x,h1,h2⟩=>by subst h2;exact⟨x,h1,rfl⟩
 | .nil _ _,_,h=>by simp only[SBr]at h;subst h;rfl
 | .ref r,_,h=>by
  simp only[SBr]at h;subst h;simp only[SB.ren,C.ren];split
  ·rfl
  ·split
   ·trivial
   ·rfl
 | .any,_,_=>trivial
theorem SBrs.ren(q i:Nat):∀{xs:List SB} {cs:List C},SBrs ρ xs cs→SBrs ρ (xs.map (SB.ren q i)) (C.rens q i cs)
 |[],_,h=>by simp only[SBrs]at h;subst h;rfl
 |_::_,_,⟨c,cs',h1,h2,h3⟩=>by subst h1;exact⟨_,_,rfl,h2.ren q i,SBrs.ren q i h3⟩
theorem STr.ren(q i:Nat):∀{xs:List (SB ⊕ List SB)} {cs:List C},STr ρ xs cs→STr ρ (xs.map fun | .inl x=>.inl (x.ren q i) | .inr l=>.inr (l.map (SB.ren q i))) (C.rens q i cs)
 |[],_,h=>by simp only[STr]at h;subst h;rfl
 | .inl _::_,_,⟨c,cs',h1,h2,h3⟩=>by subst h1;exact⟨_,_,rfl,h2.ren q i,STr.ren q i h3⟩
 | .inr _::_,_,⟨ds,cs',h1,h2,h3⟩=>by subst h1;exact⟨_,_,rfl,h2.ren q i,STr.ren q i h3⟩
theorem SCr.ren(q i:Nat):∀{x:SC} {c:C},SCr ρ x c→SCr ρ (x.ren q i) (c.ren q i)
 | .b _,_,h=>SBr.ren q i h
 | .agg _,_,⟨cs,h1,h2⟩=>by subst h1;exact⟨_,rfl,h2.ren q i⟩
 | .tup _,_,⟨cs,h1,h2⟩=>by subst h1;exact⟨_,rfl,h2.ren q i⟩
 | .ptr b o,_,h=>by simp only[SCr]at h;subst h;rfl
 | .ept r k a o,_,⟨n,h1,h2⟩=>by
  subst h2;simp only[SC.ren,C.ren];split
  ·exact⟨n,h1,rfl⟩
  ·split
   ·trivial
   ·exact⟨n,h1,rfl⟩
 | .dpt _ _,_,⟨x,cs,h1,h2,h3⟩=>by subst h3;exact⟨x,cs,h1,h2,rfl⟩
 | .any,_,_=>trivial
theorem Rel.ren(h:Rel ρ S s)(q i:Nat){row:SR}{y:Row}(hy:SRr ρ row y):Rel ρ (S.ren q i row) (s.ren q i y) where
 sl d g hl:=by
  simp only[SS.ren]at hl;rw[look_mapS (fun g:SG=>(⟨g.gs,g.c.ren q i⟩:SG)),Option.map_eq_some_iff]at hl;obtain⟨g',h1,rfl⟩:=hl;obtain⟨b,h2,h3,h4⟩:=h.sl d g' h1;have:(s.ren q i y).get d=(s.get d).ren q i:=by
   simp only[St.get,St.ren,renS];rw[look_mapS (C.ren q i)];cases look s.sl d<;>rfl
  rw[this];exact⟨b,h2,fun hb=>(h3 hb).ren q i,fun hb=>by rw[h4 hb];rfl⟩
 bx b xs hl:=by
  simp only[SS.ren]at hl;rw[look_mapS (fun xs:List SB=>xs.map (SB.ren q i)),Option.map_eq_some_iff]at hl;obtain⟨xs',h1,rfl⟩:=hl;obtain⟨cs,h2,h3⟩:=h.bx b xs' h1;refine⟨C.rens q i cs,?_,h3.ren q i⟩;simp only[St.ren,renB];rw[look_mapS (C.rens q i),h2];rfl
 rw r x hl:=by
  simp only[SS.ren,look,look_drp]at hl;simp only[St.ren,look,look_drp]
  split at hl
  ·rename_i he;cases hl;exact⟨y,by rw[if_pos he],hy⟩
  ·rename_i he;rw[if_neg he]
   split at hl
   ·cases hl
   ·rename_i h1;rw[if_neg he,if_neg h1];exact h.rw r x hl
theorem symN_mvr(h:Rel ρ S s)(hg:gsO ρ gs=some true){x:KX}(hs:symN hint S gs n d (.mvr x)=some (bs,S'))(hb:runB ρ bs=some ρ'):∃s',evN cf mf s d (.mvr x)=some s'∧Rel ρ' S' s':=by
 simp only[symN]at hs
 split at hs
 ·rename_i d0 q hx;have hr:=symX_rel h hg hx;simp only[SCr,SBr]at hr
  split at hs
  ·rename_i row hl;simp only[Option.some.injEq,Prod.mk.injEq]at hs;obtain⟨rfl,rfl⟩:=hs;cases hb;obtain⟨y,w1,w2⟩:=h.rw q row hl;exact⟨_,by simp only[evN,hr,w1],(h.ren q (rid d0 0) w2).put _ SGr.ref⟩
  ·cases hs
 ·rename_i d0 k fl hx;have hr:=symX_rel h hg hx;simp only[SCr,SBr]at hr;simp only[Option.some.injEq,Prod.mk.injEq]at hs;obtain⟨rfl,rfl⟩:=hs;cases hb;exact⟨s.put (some d0) (.nil k fl),by simp only[evN,hr],h.put _ (SGr.nil (by simp only[SCr,SBr]))⟩
 ·rename_i d0 e hx;obtain⟨v,j1,j2⟩:=symX_rel h hg hx;simp only[Option.some.injEq,Prod.mk.injEq]at hs;obtain⟨rfl,rfl⟩:=hs;cases hb;exact⟨_,by simp only[evN,j2],h.put _ (SGr.nil ⟨v,j1,rfl⟩)⟩
 ·cases hs
theorem symN_sound(h:Rel ρ S s)(hg:gsO ρ gs=some true)(hn:n=ρ.length){o:KO}(hs:symN hint S gs n d o=some (bs,S'))(hb:runB ρ bs=some ρ'):o.pure_=false∧∃s',evN cf mf s d o=some s'∧Rel ρ' S' s':=by
 cases o with
 |alloc zs=>exact⟨rfl,symN_alloc h hs hb⟩
 |box x=>exact⟨rfl,symN_box h hg hs hb⟩
 |mkrow k fl xs=>exact⟨rfl,symN_mkrow h hg hn hs hb⟩
 |make k b fl zs x=>exact⟨rfl,symN_make h hg hn hs hb⟩
 |st m x y=>exact⟨rfl,symN_st h hg hn hs hb⟩
 |app k b fl x y=>exact⟨rfl,symN_app h hg hn hs hb⟩
 |cut k x lo hi=>exact⟨rfl,symN_cut h hg hn hs hb⟩
 |cpy k x y=>exact⟨rfl,symN_cpy h hg hn hs hb⟩
 |jn x y=>exact⟨rfl,symN_jn h hg hn hs hb⟩
 |mvr x=>exact⟨rfl,symN_mvr h hg hs hb⟩
 |_=>cases hs
end
end
section
open Go.RowKit
inductive Ty where
 |int
 |bool
 |str
 |list (t:Nat)
def Ty.plain:Ty→Bool
 | .list _=>false
 |_=>true
def lay:Nat→List Ty
 |0=>[.str]
 |1=>[.str,.list 0,.int,.bool]
 |2=>[.str,.str,.list 2]
 |3=>[.int,.str,.str,.list 3]
 |4=>[.int,.int,.list 3]
 |5=>[.list 2,.list 4]
 |6=>[.int,.int]
 |7=>[.int,.list 6,.list 0,.str,.str]
 |8=>[.str,.str]
 |9=>[.str,.list 8]
 |10=>[.bool,.int,.list 9]
 |11=>[.int,.int,.str,.bool,.int,.list 9,.list 11]
 |12=>[.int,.str,.int,.list 6,.list 0,.str,.str,.list 0,.list 0,.str,.bool,.bool,.bool,.bool,.int,.int,.list 11,.list 11,.list 12]
 |13=>[.list 2,.int,.int]
 |14=>[.bool,.int,.int,.str,.list 2]
 |15=>[.list 12,.list 2,.list 2,.int,.list 13,.bool,.int,.int,.str,.list 2]
 |_=>[]
abbrev kw(t:Nat):Nat:=(lay t).length
abbrev flT(t:Nat):Bool:=(lay t).all Ty.plain
mutual
def Ok(B:Nat):Ty→D→Prop
 | .int,.int k n=>k=.i64∧-9223372036854775808≤n∧n≤9223372036854775807
 | .bool,.bool _=>True
 | .str,.str s=>s.size≤maxLen
 | .list t,.list k f es=>k=kw t∧f=flT t∧es.length≤B∧OkE B t es
 |_,_=>False
def OkC(B:Nat):List Ty→List D→Prop
 |[],[]=>True
 |t::ts,d::ds=>Ok B t d∧OkC B ts ds
 |_,_=>False
def OkE(B:Nat)(t:Nat):List (List D)→Prop
 |[]=>True
 |e::es=>OkC B (lay t) e∧OkE B t es
end
section
variable {B:Nat}
theorem Ok.int_inv{d:D}(h:Ok B .int d):∃n,d=.int .i64 n∧-9223372036854775808≤n∧n≤9223372036854775807:=by
 cases d<;>simp only[Ok]at h
 obtain⟨rfl,h⟩:=h;exact⟨_,rfl,h⟩
theorem Ok.bool_inv{d:D}(h:Ok B .bool d):∃b,d=.bool b:=by
 cases d<;>simp only[Ok]at h
 exact⟨_,rfl⟩
theorem Ok.str_inv{d:D}(h:Ok B .str d):∃s,d=.str s∧s.size≤maxLen:=by
 cases d<;>simp only[Ok]at h
 exact⟨_,rfl,h⟩
theorem Ok.list_inv{t:Nat}{d:D}(h:Ok B (.list t) d):∃es,d=.list (kw t) (flT t) es∧es.length≤B∧OkE B t es:=by
 cases d<;>simp only[Ok]at h
 obtain⟨rfl,rfl,h⟩:=h;exact⟨_,rfl,h⟩
theorem OkC.nil_inv{ds:List D}(h:OkC B [] ds):ds=[]:=by
 cases ds with
 |nil=>rfl
 |cons d ds=>simp[OkC]at h
theorem OkC.cons_inv{t:Ty}{ts:List Ty}{ds:List D}(h:OkC B (t::ts) ds):∃x xs,ds=x::xs∧Ok B t x∧OkC B ts xs:=by
 cases ds with
 |nil=>simp[OkC]at h
 |cons d ds=>simp only[OkC]at h;exact⟨d,ds,rfl,h⟩
theorem OkE.mem{t:Nat}:∀{es:List (List D)},OkE B t es→∀e∈es,OkC B (lay t) e
 |[],_,e,h=>by simp at h
 |x::es,ho,e,h=>by
  simp only[OkE]at ho;rcases List.mem_cons.1 h with rfl|h
  ·exact ho.1
  ·exact OkE.mem ho.2 e h
theorem nth_lt{α:Type}{l:List α}{i:Nat}(h:i < l.length):nth l i=some l[i]:=by rw[nth_get];simp[h]
theorem OkC.length{ts:List Ty}:∀{ds:List D},OkC B ts ds→ds.length=ts.length:=by
 induction ts with
 |nil=>intro ds h;rw[h.nil_inv];rfl
 |cons t ts ih=>intro ds h;obtain⟨x,xs,rfl,_,h2⟩:=h.cons_inv;simp[ih h2]
mutual
theorem Ok.mono{B B':Nat}(hb:B≤B'):∀(t:Ty) (d:D),Ok B t d→Ok B' t d
 | .int,.int _ _,h=>by simpa only [Ok] using h
 | .bool,.bool _,_=>by simp only[Ok]
 | .str,.str _,h=>by simpa only [Ok] using h
 | .list t,.list k f es,h=>by
  simp only[Ok]at h ⊢;exact⟨h.1,h.2.1,Nat.le_trans h.2.2.1 hb,OkE.mono hb t es h.2.2.2⟩
 | .int,.bool _,h | .int,.str _,h | .int,.list _ _ _,h | .bool,.int _ _,h | .bool,.str _,h | .bool,.list _ _ _,h | .str,.int _ _,h | .str,.bool _,h | .str,.list _ _ _,h | .list _,.int _ _,h | .list _,.bool _,h | .list _,.str _,h=>by simp only[Ok]at h
theorem OkC.mono{B B':Nat}(hb:B≤B'):∀(ts:List Ty) (ds:List D),OkC B ts ds→OkC B' ts ds
 |[],[],_=>by simp only[OkC]
 |t::ts,d::ds,h=>by
  simp only[OkC]at h ⊢;exact⟨Ok.mono hb t d h.1,OkC.mono hb ts ds h.2⟩
 |[],_::_,h|_::_,[],h=>by simp only[OkC]at h
theorem OkE.mono{B B':Nat}(hb:B≤B')(t:Nat):∀(es:List (List D)),OkE B t es→OkE B' t es
 |[],h=>by simp only[OkE]
 |e::es,h=>by
  simp only[OkE]at h ⊢;exact⟨OkC.mono hb (lay t) e h.1,OkE.mono hb t es h.2⟩
end
end
mutual
def D.sz:D→Nat
 | .str s=>s.size
 | .list _ _ es=>es.length+szE es
 |_=>0
def szC:List D→Nat
 |[]=>0
 |d::ds=>d.sz+szC ds
def szE:List (List D)→Nat
 |[]=>0
 |e::es=>szC e+szE es
end
mutual
theorem Ok.small{B B':Nat}:∀(t:Ty) (d:D),Ok B t d→d.sz≤B'→Ok B' t d
 | .int,.int _ _,h,_=>by simpa only [Ok] using h
 | .bool,.bool _,_,_=>by simp only[Ok]
 | .str,.str _,h,_=>by simpa only [Ok] using h
 | .list t,.list k f es,h,hs=>by
  simp only[Ok]at h ⊢;simp only[D.sz]at hs;exact⟨h.1,h.2.1,by omega,OkE.small t es h.2.2.2 (by omega)⟩
 | .int,.bool _,h,_ | .int,.str _,h,_ | .int,.list _ _ _,h,_ | .bool,.int _ _,h,_ | .bool,.str _,h,_ | .bool,.list _ _ _,h,_ | .str,.int _ _,h,_ | .str,.bool _,h,_ | .str,.list _ _ _,h,_ | .list _,.int _ _,h,_ | .list _,.bool _,h,_ | .list _,.str _,h,_=>by simp only[Ok]at h
theorem OkC.small{B B':Nat}:∀(ts:List Ty) (ds:List D),OkC B ts ds→szC ds≤B'→OkC B' ts ds
 |[],[],_,_=>by simp only[OkC]
 |t::ts,d::ds,h,hs=>by
  simp only[OkC]at h ⊢;simp only[szC]at hs;exact⟨Ok.small t d h.1 (by omega),OkC.small ts ds h.2 (by omega)⟩
 |[],_::_,h,_|_::_,[],h,_=>by simp only[OkC]at h
theorem OkE.small{B B':Nat}(t:Nat):∀(es:List (List D)),OkE B t es→szE es≤B'→OkE B' t es
 |[],h,_=>by simp only[OkE]
 |e::es,h,hs=>by
  simp only[OkE]at h ⊢;simp only[szE]at hs;exact⟨OkC.small (lay t) e h.1 (by omega),OkE.small t es h.2 (by omega)⟩
end
abbrev orow(k:Nat)(fl:Bool)(es:List (List D)):Row:=⟨es,k,fl,true,true,false⟩
def own:D→RV
 | .list k fl es=>.row (orow k fl es)
 |d=>.d d
def digs:Nat→Nat→ByteArray→ByteArray
 |0,_,out=>out
 |f+1,n,out=>if n=0 then out else digs f (n / 10) (⟨#[UInt8.ofNat (48+n % 10)]⟩++out)
def mText(k:Int):ByteArray:=if k≤0 then ⟨#[109,48]⟩ else ⟨#[109]⟩++digs 20 k.toNat ⟨#[]⟩
def mBool(q:Int):Bool:=decide (q % 3=0)
mutual
def D.mn:D→Nat
 | .list _ _ es=>mnE es
 |_=>1
def mnC:List D→Nat
 |[]=>0
 |d::ds=>d.mn+mnC ds
def mnE:List (List D)→Nat
 |[]=>0
 |e::es=>mnC e+mnE es
end
mutual
def D.mk:D→Int→D
 | .int k _,q=>.int k q
 | .bool _,q=>.bool (mBool q)
 | .str _,q=>.str (mText q)
 | .list k fl es,q=>.list k fl (mkE es q)
def mkC:List D→Int→List D
 |[],_=>[]
 |d::ds,q=>d.mk q::mkC ds (q+d.mn)
def mkE:List (List D)→Int→List (List D)
 |[],_=>[]
 |e::es,q=>mkC e q::mkE es (q+mnC e)
end
theorem mnE_append:∀(a b:List (List D)),mnE (a++b)=mnE a+mnE b
 |[],b=>by simp[mnE]
 |e::a,b=>by simp[mnE,mnE_append a b,Nat.add_assoc]
theorem szE_append:∀(a b:List (List D)),szE (a++b)=szE a+szE b
 |[],b=>by simp[szE]
 |e::a,b=>by simp[szE,szE_append a b,Nat.add_assoc]
theorem take_succ_nth{α:Type}:∀(es:List α) (i:Nat) (e:α),nth es i=some e→es.take (i+1)=es.take i++[e]
 |[],_,_,h=>by simp[nth]at h
 |x::es,0,e,h=>by simp only[nth,Option.some.injEq]at h;simp[h]
 |x::es,i+1,e,h=>by simp only[nth]at h;simp[take_succ_nth es i e h]
theorem fill_set{α:Type}:∀(es:List α) (z:α) (zs:List α) (i:Nat) (e:α),nth es i=some e→(es.take i++z::zs).set i e=es.take (i+1)++zs
 |[],_,_,_,_,h=>by simp[nth]at h
 |x::es,z,zs,0,e,h=>by
  simp only[nth,Option.some.injEq]at h;subst h;simp
 |x::es,z,zs,i+1,e,h=>by
  simp only[nth]at h;simp[fill_set es z zs i e h]
theorem fill_rep{α:Type}{es:List α}{z:α}{i:Nat}{e:α}(h:nth es i=some e):(es.take i++List.replicate (es.length - i) z).set i e=es.take (i+1)++List.replicate (es.length - (i+1)) z:=by
 have hl:i < es.length:=by rw[nth_get]at h;exact (List.getElem?_eq_some_iff.1 h).1
 rw[show es.length - i=(es.length - (i+1))+1 by omega,List.replicate_succ,fill_set es z _ i e h]
end
section
section
variable {cf:Cf} {mf:Mf}
@[go_sem] theorem thn_norm (g:St→Option (Ex×St)) (s:St):thn g (some (.norm,s))=g s:=rfl
@[go_sem] theorem nrm_some (kp:Keep) (s:St):nrm kp (some s)=some (.norm,s.keep kp):=rfl
def leaveR(res:List KR)(args:List A)(s:St):Option (List A×List A):=
 match resAs s res,outAs s 0 args with
 |some (rs,l),some (outs,l')=>if nodupB (l++l') then some (rs,outs) else none
 |_,_=>none
def finR(res:List KR)(args:List A):Option (Ex×St)→Option (List A×List A)
 |some (.norm,s)=>leaveR res args s
 |some (.ret,s)=>leaveR res args s
 |_=>none
theorem lim_fn{T:Nat→Option KF}{f np:Nat}{body:K}{res:List KR}(hT:T f=some ⟨np,body,res⟩){args:List A}(hl':(args.length ==np && Nat.blt np 999)=true) :
  lim T f args=finR res args (ev T mf0 body (enterAs 0 args ⟨[],[],[]⟩)):=by
 rw[Bool.and_eq_true,beq_iff_eq,Nat.blt_eq]at hl';have hl:=hl'.1;rw[lim_run T hT (by simp only;omega)];simp only[run,hl,if_true];generalize ev T mf0 body (enterAs 0 args ⟨[],[],[]⟩)=x;rcases x with _|⟨_|_|_,s⟩<;>rfl
theorem loop_up{T:Nat→Option KF}{body:K}(st:Nat→St){n:Nat}{e:Ex}{s:St}(he:e≠.norm)(hend:ev T mf body (st n)=some (e,s))(hstep:∀i,i < n→ev T mf body (st i)=some (.norm,st (i+1))) :
  ∀m i,i+m=n→ev T mf (.loop body) (st i)=some (e,s)
 |0,i,h=>by
  rw[ev_loop,show i=n by omega,hend];cases e with
  |norm=>exact absurd rfl he
  |exit j=>rfl
  |ret=>rfl
 |m+1,i,h=>by
  rw[ev_loop,hstep i (by omega)];exact loop_up st he hend hstep m (i+1) (by omega)
theorem loop0{T:Nat→Option KF}{body:K}(st:Nat→St)(n:Nat){e:Ex}{s:St}(he:e≠.norm)(hend:ev T mf body (st n)=some (e,s))(hstep:∀i,i < n→ev T mf body (st i)=some (.norm,st (i+1))):ev T mf (.loop body) (st 0)=some (e,s):=
 loop_up st he hend hstep n 0 (by omega)
@[go_sem] theorem short_val (ag:Bool) (cs:List RV):A.short (.val ag cs)=decide (cs.length≤30):=by
 simp only[A.short];by_cases h:cs.length≤30
 ·simp only[h,decide_true];exact Nat.ble_eq_true_of_le h
 ·simp only[h,decide_false];cases hb:Nat.ble cs.length 30 with
  |false=>rfl
  |true=>exact absurd (Nat.le_of_ble_eq_true hb) h
@[go_sem] theorem evOps_nil (s:St):evOps cf mf [] s=some s:=rfl
@[go_sem] theorem evOps_cons (i:KI) (is:List KI) (s:St):evOps cf mf (i::is) s=(evI cf mf s i).bind (evOps cf mf is):=by
 simp only[evOps];cases evI cf mf s i<;>rfl
@[go_sem] theorem evI_none (s:St) (d:Option Nat) (o:KO):evI cf mf s ⟨d,o,none⟩=evO cf mf s d o:=rfl
def gdn(cf:Cf)(mf:Mf)(s:St)(d:Option Nat)(o:KO)(w:Bool):C→Option St
 | .d (.bool b)=>if b=w then evO cf mf s d o else some (s.put d .und)
 | .und=>some (s.put d .und)
 |_=>none
@[go_sem] theorem evI_some (s:St) (d:Option Nat) (o:KO) (g:Nat) (w:Bool):evI cf mf s ⟨d,o,some (g,w)⟩=gdn cf mf s d o w (s.get g):=by
 simp only[evI,gdn];cases s.get g<;>rfl
def rsl (s : St) (d : Option Nat) (cs : List C) : Option (List A × List A) → Option St
  | none => none
  | some (rs, outs) => if rs.all A.short then
        let s0 := if rs.all A.closed && outs.all A.closed then s else shareAll s (lentAll cs)
        let s1 := dropBoxes (dropRows s0 (movedAll s cs)) (boxesOf cs)
        let s2 := wback s1 cs outs
        let (l, s4) := resCells (d.getD 0) 0 rs s2
        some (s4.put d (match l with | [c] => c | l => .tup l))
        else none
def evCa(cf:Cf)(s:St)(d:Option Nat)(f:Nat)(cs:List C):Option (List A)→Option St
 |some as=>if nodupB (movedAll s cs) && nodupB (boxesOf cs) && (movedAll s cs).all (fun r=>!(lentAll cs).contains r) then rsl s d cs (cf f as) else none
 |none=>none
@[go_sem] theorem evCall_eq (s:St) (d:Option Nat) (f:Nat) (cs:List C):evCall cf s d f cs=evCa cf s d f cs (toAs s cs):=by
 simp only[evCall,evCa];cases toAs s cs with
 |none=>rfl
 |some as=>
  dsimp only;split
  ·cases cf f as with
   |none=>rfl
   |some r=>rfl
  ·rfl
end
theorem nt_0{α:Type}(x:α)(l:List α):nth (x::l) 0=some x:=rfl
theorem nt_s{α:Type}(x:α)(l:List α)(i:Nat):nth (x::l) (i+1)=nth l i:=rfl
theorem nt_n{α:Type}(i:Nat):nth ([]:List α) i=none:=by cases i<;>rfl
attribute [go_sem] ev_seq ev_cond ev_block ev_reg ev_drw ev_ret ev_exit ev_skip ev_share ev_dat
attribute [go_sem] datS leaveR resAs resA outAs outA
attribute [go_sem] optI evO evP evN evX KO.pure_ KO.isLd ldBox touch tkAdd tkCut
attribute [go_sem] St.get St.put St.setBox St.setRow St.dropRow St.newBox St.newRow St.kill St.keep keepL look drp killS killB rid nt_0 nt_s nt_n
attribute [go_sem] C.ren C.rens renS renB St.ren bools jnSrc C.kill C.kills C.cells C.const C.cell C.isAgg emb embs plains D.plain binI binS binB binD rdCell wrCell mapO toA toAs rowsOf moved movedAll lentAll boxesOf RV.closed A.closed Row.share shareAll inCells wback resCells nodupB dropRows splC dropBoxes fillC rowsAll callIds cellM cellsM backM enterA enterAs appSrc
attribute [go_sem] List.length_cons List.length_nil List.map_cons List.map_nil List.all_cons List.all_nil List.filter_cons List.filter_nil List.append_nil List.nil_append List.cons_append List.take_succ_cons List.take_zero List.drop_succ_cons List.drop_zero List.drop_nil List.take_nil List.contains_cons List.contains_nil List.headD_cons
attribute [go_sem] Option.map_some Option.map_none Option.getD_some Option.getD_none Option.isSome_some Option.toList_some Option.bind_some
attribute [go_sem] Option.some_beq_some Option.none_beq_some
attribute [go_sem] if_true if_false Bool.and_true Bool.true_and Bool.and_false Bool.false_and Bool.not_true Bool.not_false Bool.or_true Bool.true_or Bool.or_false Bool.false_or and_true true_and and_false false_and
attribute [go_sem] Nat.zero_add Nat.add_zero Bool.false_eq_true ite_true ite_false decide_true decide_false Int.toNat_natCast Bool.true_eq_false beq_self_eq_true bne_self_eq_false imp_self false_imp_iff true_imp_iff
theorem wi{i n:Nat}(h:i < n)(hn:n≤maxLen):IntKind.i64.wrap ((i:Int)+1)=((i+1:Nat):Int):=by
 rw[i64_wrap (by simp[maxLen]at hn;omega)];omega
theorem OkC.drop{B:Nat}:∀(o:Nat) (ts:List Ty) (ds:List D),OkC B ts ds→OkC B (ts.drop o) (ds.drop o)
 |0,_,_,h=>by simpa using h
 |o+1,[],[],h=>by simpa using h
 |o+1,t::ts,d::ds,h=>by simp only[OkC]at h;simpa using OkC.drop o ts ds h.2
 |_,[],_::_,h|_,_::_,[],h=>by simp only[OkC]at h
theorem OkC.take{B:Nat}:∀(o:Nat) (ts:List Ty) (ds:List D),OkC B ts ds→OkC B (ts.take o) (ds.take o)
 |0,_,_,_=>by simp[OkC]
 |o+1,[],[],h=>by simpa using h
 |o+1,t::ts,d::ds,h=>by simp only[OkC]at h;simp only[List.take_succ_cons,OkC];exact⟨h.1,OkC.take o ts ds h.2⟩
 |_,[],_::_,h|_,_::_,[],h=>by simp only[OkC]at h
theorem OkC.sub{B:Nat}(o m:Nat){ts:List Ty}{ds:List D}(h:OkC B ts ds):OkC B ((ts.drop o).take m) ((ds.drop o).take m):=OkC.take m _ _ (OkC.drop o _ _ h)
theorem drop_nth{α:Type}:∀(es:List α) (i:Nat) (e:α),nth es i=some e→es.drop i=e::es.drop (i+1)
 |[],_,_,h=>by simp[nth]at h
 |x::es,0,e,h=>by simp only[nth,Option.some.injEq]at h;simp[h]
 |x::es,i+1,e,h=>by simp only[nth]at h;simp[drop_nth es i e h]
end
section
section
variable {T:Nat→Option KF} {cf:Cf} {mf:Mf}
noncomputable def cnd(T:Nat→Option KF)(mf:Mf)(c:C)(a b:K)(s:St):Option (Ex×St):=ife c (ev T mf a s) (ev T mf b s)
theorem ev_cnd(c:KX)(a b:K)(s:St):ev T mf (.cond c a b) s=cnd T mf (evX s c) a b s:=ev_cond T mf c a b s
end
attribute [go_sem 2000] ev_cnd
attribute [go_sem] Nat.max_def ite_self
theorem nth_len{α:Type}{l:List α}{i:Nat}{x:α}(h:nth l i=some x):i < l.length:=by rw[nth_get]at h;exact (List.getElem?_eq_some_iff.1 h).1
inductive Sg (σ ρ:Type) where
 |go (s:σ)
 |out (r:ρ)
def foldE{α σ ρ:Type}(step:Nat→σ→α→Sg σ ρ):Nat→σ→List α→Sg σ ρ
 |_,s,[]=>.go s
 |i,s,e::es=>match step i s e with
  | .go s'=>foldE step (i+1) s' es
  | .out r=>.out r
def sgR{σ ρ:Type}(st:σ→St)(rs:ρ→Ex×St):Sg σ ρ→Option (Ex×St)
 | .go s=>some (.norm,st s)
 | .out r=>some (rs r)
def sgE{σ ρ:Type}(b:Nat)(fin:σ→St)(rs:ρ→Ex×St):Sg σ ρ→Option (Ex×St)
 | .go s=>some (.exit b,fin s)
 | .out r=>some (rs r)
theorem thn_out{g:St→Option (Ex×St)}{r:Ex×St}(h:r.1≠.norm):thn g (some r)=some r:=by
 obtain⟨e,s⟩:=r;cases e with
 |norm=>exact absurd rfl h
 |exit i=>rfl
 |ret=>rfl
theorem loop_fold{T:Nat→Option KF}{mf:Mf}{body:K}{α σ ρ:Type}{es:List α}{b:Nat}(step:Nat→σ→α→Sg σ ρ)(I:Nat→σ→Prop)(st:Nat→σ→St)(fin:σ→St)(rs:ρ→Ex×St)
  (hrs:∀r,(rs r).1≠.norm)
  (hgo:∀i e s,nth es i=some e→I i s→ev T mf body (st i s)=sgR (st (i+1)) rs (step i s e)∧∀s',step i s e=.go s'→I (i+1) s')
  (hend:∀s,I es.length s→ev T mf body (st es.length s)=some (.exit b,fin s)) :
  ∀m i s,i+m=es.length→I i s→ev T mf (.loop body) (st i s)=sgE b fin rs (foldE step i s (es.drop i))
 |0,i,s,h,hI=>by
  obtain rfl:i=es.length:=by omega
  rw[ev_loop,hend s hI,List.drop_length];rfl
 |m+1,i,s,h,hI=>by
  have a1:=nth_lt (l:=es) (i:=i) (by omega);obtain⟨h1,h2⟩:=hgo i _ s a1 hI;rw[drop_nth es i _ a1,ev_loop,h1];simp only[foldE];cases hs:step i s es[i]with
  |go s'=>
   simp only[sgR,thn];exact loop_fold step I st fin rs hrs hgo hend m (i+1) s' (by omega) (h2 s' hs)
  |out r=>
   simp only[sgR,sgE];exact thn_out (hrs r)
def allI{α:Type}(p:Nat→α→Bool):Nat→List α→Bool
 |_,[]=>true
 |i,e::es=>p i e && allI p (i+1) es
theorem allI_all{α:Type}(p:α→Bool):∀(i:Nat) (es:List α),allI (fun _=>p) i es=es.all p
 |_,[]=>rfl
 |i,e::es=>by simp[allI,allI_all p (i+1) es]
theorem loop_all{T:Nat→Option KF}{mf:Mf}{body:K}{α:Type}{es:List α}{b:Nat}(p:Nat→α→Bool)(st:Nat→St)(fin r:St)
  (hgo:∀i e,nth es i=some e→ev T mf body (st i)=if p i e=true then some (.norm,st (i+1)) else some (.ret,r))
  (hend:ev T mf body (st es.length)=some (.exit b,fin)) :
  ∀m i,i+m=es.length→ev T mf (.loop body) (st i)=if allI p i (es.drop i)=true then some (.exit b,fin) else some (.ret,r)
 |0,i,h=>by
  obtain rfl:i=es.length:=by omega
  rw[ev_loop,hend,List.drop_length];rfl
 |m+1,i,h=>by
  have a1:=nth_lt (l:=es) (i:=i) (by omega);have e1:allI p i (es.drop i)=(p i (es[i]'(by omega)) && allI p (i+1) (es.drop (i+1))):=by rw[drop_nth es i _ a1];rfl
  rw[ev_loop,hgo i _ a1,e1];by_cases hp:p i (es[i]'(by omega))=true
  ·rw[if_pos hp,hp,Bool.true_and];exact loop_all p st fin r hgo hend m (i+1) (by omega)
  ·rw[if_neg hp,Bool.eq_false_iff.2 hp,Bool.false_and,if_neg Bool.false_ne_true];rfl
theorem loop_all0{T:Nat→Option KF}{mf:Mf}{body:K}{α:Type}{es:List α}{b:Nat}(p:α→Bool)(st:Nat→St)(fin r:St)
  (hgo:∀i e,nth es i=some e→ev T mf body (st i)=if p e=true then some (.norm,st (i+1)) else some (.ret,r))
  (hend:ev T mf body (st es.length)=some (.exit b,fin)):ev T mf (.loop body) (st 0)=if es.all p=true then some (.exit b,fin) else some (.ret,r):=by
 have h:=loop_all (fun _=>p) st fin r hgo hend es.length 0 (by omega);rw[List.drop_zero,allI_all]at h;exact h
def fnd{α:Type}(p:α→Bool):List α→Nat→Option Nat
 |[],_=>none
 |e::es,k=>if p e then some k else fnd p es (k+1)
def fndR(b:Nat)(fin:St)(r:Nat→St):Option Nat→Option (Ex×St)
 |none=>some (.exit b,fin)
 |some i=>some (.ret,r i)
theorem map_succ{α β:Type}{f:α→β}{es:List α}{i:Nat}{e:α}(h:nth es i=some e):(es.take (i+1)).map f=(es.take i).map f++[f e]:=by
 rw[take_succ_nth es i e h];simp
theorem fnd_nth{α:Type}{p:α→Bool}:∀{es:List α} {k j:Nat},fnd p es k=some j→∃e,k≤j∧nth es (j - k)=some e∧p e=true
 |[],k,j,h=>by simp[fnd]at h
 |e::es,k,j,h=>by
  simp only[fnd]at h
  split at h
  ·rename_i hp;obtain rfl:=Option.some.inj h;exact⟨e,Nat.le_refl _,by simp[nth],hp⟩
  ·obtain⟨x,h1,h2,h3⟩:=fnd_nth h;refine⟨x,by omega,?_,h3⟩;rw[show j - k=(j - (k+1))+1 by omega];exact h2
theorem fnd_nth0{α:Type}{p:α→Bool}{es:List α}{j:Nat}(h:fnd p es 0=some j):∃e,nth es j=some e∧p e=true:=by
 obtain⟨e,_,h2,h3⟩:=fnd_nth h;exact⟨e,by simpa using h2,h3⟩
def ofI:Option Nat→Int
 |none=>-1
 |some j=>(j:Int)
inductive Runs {σ ρ:Type} (b:σ→Option (Sg σ ρ)):σ→ρ→Prop
 |out {s:σ} {r:ρ} (h:b s=some (.out r)):Runs b s r
 |go {s s':σ} {r:ρ} (h:b s=some (.go s')) (h':Runs b s' r):Runs b s r
open Classical in
noncomputable def gloop{σ ρ:Type}(b:σ→Option (Sg σ ρ))(s:σ):Option ρ:=if h:∃r,Runs b s r then some h.choose else none
theorem gloop_runs{σ ρ:Type}{b:σ→Option (Sg σ ρ)}{s:σ}{r:ρ}(h:gloop b s=some r):Runs b s r:=by
 unfold gloop at h
 split at h
 ·rename_i hx;rw[← Option.some.inj h];exact hx.choose_spec
 ·cases h
theorem Runs.det{σ ρ:Type}{b:σ→Option (Sg σ ρ)}{s:σ}{r r':ρ}(h:Runs b s r)(h':Runs b s r'):r=r':=by
 induction h with
 |out h=>
  cases h' with
  |out g=>rw[h]at g;cases g;rfl
  |go g _=>rw[h]at g;cases g
 |go h _ ih=>
  cases h' with
  |out g=>rw[h]at g;cases g
  |go g g'=>rw[h]at g;cases g;exact ih g'
theorem runs_gloop{σ ρ:Type}{b:σ→Option (Sg σ ρ)}{s:σ}{r:ρ}(h:Runs b s r):gloop b s=some r:=by
 unfold gloop;have hx:∃r,Runs b s r:=⟨r,h⟩
 rw[dif_pos hx,hx.choose_spec.det h]
theorem gloop_out{σ ρ:Type}{b:σ→Option (Sg σ ρ)}{s:σ}{r:ρ}(h:b s=some (.out r)):gloop b s=some r:=runs_gloop (.out h)
theorem gloop_go{σ ρ:Type}{b:σ→Option (Sg σ ρ)}{s s':σ}(h:b s=some (.go s')):gloop b s=gloop b s':=by
 by_cases hx:∃r,Runs b s' r
 ·obtain⟨r,hr⟩:=hx;rw[runs_gloop hr,runs_gloop (.go h hr)]
 ·have hy:¬∃r,Runs b s r:=fun⟨r,hr⟩=>by
   cases hr with
   |out g=>rw[h]at g;cases g
   |go g g'=>rw[h]at g;cases g;exact hx ⟨r,g'⟩
  unfold gloop;rw[dif_neg hx,dif_neg hy]
theorem nth_map{α β:Type}(f:α→β):∀(l:List α) (i:Nat),nth (l.map f) i=(nth l i).map f
 |[],_=>rfl
 |_::_,0=>rfl
 |_::l,i+1=>nth_map f l i
theorem wrap_i64{a:Int}(h:-9223372036854775808≤a∧a≤9223372036854775807):IntKind.i64.wrap a=a:=i64_wrap (by omega)
theorem wrap_u8{a:Int}(h:0≤a∧a≤255):IntKind.u8.wrap a=a:=by
 simp[IntKind.wrap,IntKind.bits,IntKind.signed];omega
theorem room_2{α:Type}{b:Nat}{u t:List α}(hb:b≤65536)(h:u.length+t.length≤2147483648):((u.length+t.length) * b≤room∧u.length+t.length≤maxLen)=True:=by
 refine eq_true ⟨Nat.le_trans (Nat.mul_le_mul h hb) (by decide),Nat.le_trans h (by decide)⟩
def sgM{τ σ ρ:Type}(mk:τ→σ):Sg τ ρ→Sg σ ρ
 | .go t=>.go (mk t)
 | .out r=>.out r
def sgF{τ ρ:Type}(fin:τ→ρ):Sg τ ρ→ρ
 | .go t=>fin t
 | .out r=>r
theorem gl_from{α τ σ ρ:Type}{b:σ→Option (Sg σ ρ)}{es:List α}(mk:Nat→τ→σ)(step:Nat→τ→α→Sg τ ρ)(fin:τ→ρ)(I:Nat→τ→Prop)
  (hgo:∀i e t,nth es i=some e→I i t→b (mk i t)=some (sgM (mk (i+1)) (step i t e))∧∀t',step i t e=.go t'→I (i+1) t')
  (hend:∀t,I es.length t→b (mk es.length t)=some (.out (fin t))) :
  ∀m i t,i+m=es.length→I i t→gloop b (mk i t)=some (sgF fin (foldE step i t (es.drop i)))
 |0,i,t,h,hI=>by
  obtain rfl:i=es.length:=by omega
  rw[gloop_out (hend t hI),List.drop_length];rfl
 |m+1,i,t,h,hI=>by
  have a1:=nth_lt (l:=es) (i:=i) (by omega);obtain⟨h1,h2⟩:=hgo i _ t a1 hI;rw[drop_nth es i _ a1];simp only[foldE];cases hs:step i t es[i]with
  |go t'=>
   rw[hs]at h1;rw[gloop_go h1];exact gl_from mk step fin I hgo hend m (i+1) t' (by omega) (h2 t' hs)
  |out r=>
   rw[hs]at h1;rw[gloop_out h1];rfl
theorem gl_fold{α τ σ ρ:Type}{b:σ→Option (Sg σ ρ)}(es:List α)(mk:Nat→τ→σ)(step:Nat→τ→α→Sg τ ρ)(fin:τ→ρ)(I:Nat→τ→Prop)(t:τ)(h0:I 0 t)
  (hgo:∀i e t,nth es i=some e→I i t→b (mk i t)=some (sgM (mk (i+1)) (step i t e))∧∀t',step i t e=.go t'→I (i+1) t')
  (hend:∀t,I es.length t→b (mk es.length t)=some (.out (fin t))):gloop b (mk 0 t)=some (sgF fin (foldE step 0 t es)):=by
 have h:=gl_from mk step fin I hgo hend es.length 0 t (by omega) h0
 rwa [List.drop_zero]at h
theorem gl_allI{α σ ρ:Type}{b:σ→Option (Sg σ ρ)}(es:List α)(mk:Nat→σ)(p:Nat→α→Bool)(yes no:ρ)
  (hgo:∀i e,nth es i=some e→b (mk i)=some (if p i e=true then .go (mk (i+1)) else .out no))
  (hend:b (mk es.length)=some (.out yes)):∀m i,i+m=es.length→gloop b (mk i)=some (if allI p i (es.drop i)=true then yes else no)
 |0,i,h=>by
  obtain rfl:i=es.length:=by omega
  rw[gloop_out hend,List.drop_length];rfl
 |m+1,i,h=>by
  have a1:=nth_lt (l:=es) (i:=i) (by omega);have h1:=hgo i _ a1;have e1:allI p i (es.drop i)=(p i (es[i]'(by omega)) && allI p (i+1) (es.drop (i+1))):=by rw[drop_nth es i _ a1];rfl
  rw[e1];by_cases hp:p i (es[i]'(by omega))=true
  ·rw[if_pos hp]at h1;rw[gloop_go h1,hp,Bool.true_and];exact gl_allI es mk p yes no hgo hend m (i+1) (by omega)
  ·rw[if_neg hp]at h1;rw[gloop_out h1,Bool.eq_false_iff.2 hp,Bool.false_and,if_neg Bool.false_ne_true]
theorem gl_all{α σ ρ:Type}{b:σ→Option (Sg σ ρ)}(es:List α)(mk:Nat→σ)(p:α→Bool)(yes no:ρ)
  (hgo:∀i e,nth es i=some e→b (mk i)=some (if p e=true then .go (mk (i+1)) else .out no))
  (hend:b (mk es.length)=some (.out yes)):gloop b (mk 0)=some (if es.all p=true then yes else no):=by
 have h:=gl_allI es mk (fun _=>p) yes no hgo hend es.length 0 (by omega)
 rwa [List.drop_zero,allI_all]at h
theorem gl_find{α σ ρ:Type}{b:σ→Option (Sg σ ρ)}(es:List α)(mk:Nat→σ)(p:α→Bool)(none_:ρ)(hit:Nat→α→ρ)
  (hgo:∀i e,nth es i=some e→b (mk i)=some (if p e=true then .out (hit i e) else .go (mk (i+1))))
  (hend:b (mk es.length)=some (.out none_)):∀m i,i+m=es.length→gloop b (mk i)=some (match fnd p (es.drop i) i with|none=>none_|some j=>match nth es j with|some e=>hit j e|none=>none_)
 |0,i,h=>by
  obtain rfl:i=es.length:=by omega
  rw[gloop_out hend,List.drop_length];rfl
 |m+1,i,h=>by
  have a1:=nth_lt (l:=es) (i:=i) (by omega);have h1:=hgo i _ a1;rw[drop_nth es i _ a1];simp only[fnd];by_cases hp:p (es[i]'(by omega))=true
  ·rw[if_pos hp]at h1;rw[gloop_out h1,if_pos hp];simp only[a1]
  ·rw[if_neg hp]at h1;rw[gloop_go h1,if_neg hp];exact gl_find es mk p none_ hit hgo hend m (i+1) (by omega)
theorem gl_find0{α σ ρ:Type}{b:σ→Option (Sg σ ρ)}(es:List α)(mk:Nat→σ)(p:α→Bool)(none_:ρ)(hit:Nat→α→ρ)
  (hgo:∀i e,nth es i=some e→b (mk i)=some (if p e=true then .out (hit i e) else .go (mk (i+1))))
  (hend:b (mk es.length)=some (.out none_)):gloop b (mk 0)=some (match fnd p es 0 with|none=>none_|some j=>match nth es j with|some e=>hit j e|none=>none_):=by
 have h:=gl_find es mk p none_ hit hgo hend es.length 0 (by omega)
 rwa [List.drop_zero]at h
theorem gl_gather{α τ σ ρ:Type}{b:σ→Option (Sg σ ρ)}(es:List α)(mk:Nat→τ→σ)(f:Nat→τ)(fin:ρ)
  (hgo:∀i e,nth es i=some e→b (mk i (f i))=some (.go (mk (i+1) (f (i+1)))))
  (hend:b (mk es.length (f es.length))=some (.out fin)):∀m i,i+m=es.length→gloop b (mk i (f i))=some fin
 |0,i,h=>by
  obtain rfl:i=es.length:=by omega
  exact gloop_out hend
 |m+1,i,h=>by
  have a1:=nth_lt (l:=es) (i:=i) (by omega);rw[gloop_go (hgo i _ a1)];exact gl_gather es mk f fin hgo hend m (i+1) (by omega)
def nr{β:Type}(i:Nat):List β→Int ⊕ (Int×List β)
 |[]=>.inl i
 |x::t=>.inr (i,x::t)
end
section
inductive ST where
 |nil
 |cons (a b:ST)
 |op (gs:Gs) (o:PO) (es:List SE) (t:ST)
 |gd (gs:Gs) (a b:ST)
 |call (i:Nat) (es:List SE) (ts:ST)
 |leaf (j:Nat) (es:List SE)
 |map (f:List Nat) (t:ST)
 |seq (t ts:ST)
 |loop (h:Nat) (es:List SE) (bs:ST)
 |both (a b:ST)
 deriving DecidableEq
abbrev Gf:=Nat→List D→Option (Nat×List D)
def goOut:Option (Nat×List D)→Option (Sg (Nat×List D) (Nat×List D))
 |some (j,σ)=>some (if j % 2=0 then .go (j / 2,σ) else .out (j / 2,σ))
 |none=>none
open Classical in
noncomputable def bothT{α:Type}:Option α→Option α→Option α
 |some a,some b=>if a=b then some a else none
 |_,_=>none
theorem bothT_ok{α:Type}{a b:Option α}{r:α}(h:bothT a b=some r):a=some r∧b=some r:=by
 unfold bothT at h
 split at h
 ·split at h
  ·rename_i he;cases h;subst he;exact⟨rfl,rfl⟩
  ·cases h
 ·cases h
theorem bothT_same{α:Type}(a:α):bothT (some a) (some a)=some a:=by simp[bothT]
noncomputable def denT(G:Gf):ST→Nat→List D→Option (Nat×List D)
 | .nil,_,_=>none
 | .cons a _,0,ρ=>denT G a 0 ρ
 | .cons _ b,j+1,ρ=>denT G b j ρ
 | .op gs o es t,_,ρ=>match gsO ρ gs with
  |some true=>match evE ρ es with
   |some xs=>match evPO o xs with
    |some x=>denT G t 0 (ρ++[x])
    |none=>none
   |none=>none
  |some false=>denT G t 0 (ρ++[.bool false])
  |none=>none
 | .gd gs a b,_,ρ=>match gsO ρ gs with
  |some true=>denT G a 0 ρ
  |some false=>denT G b 0 ρ
  |none=>none
 | .call i es ts,_,ρ=>match evE ρ es with
  |some xs=>match G i xs with
   |some (j,ws)=>denT G ts j (ρ++ws)
   |none=>none
  |none=>none
 | .leaf j es,_,ρ=>match evE ρ es with
  |some xs=>some (j,xs)
  |none=>none
 | .map f t,_,ρ=>match denT G t 0 ρ with
  |some (j,σ)=>(nth f j).map (·,σ)
  |none=>none
 | .seq t ts,_,ρ=>match denT G t 0 ρ with
  |some (j,σ)=>denT G ts j σ
  |none=>none
 | .loop h es bs,_,ρ=>match evE ρ es with
  |some σ=>gloop (fun p=>goOut (denT G bs p.1 p.2)) (h,σ)
  |none=>none
 | .both a b,_,ρ=>bothT (denT G a 0 ρ) (denT G b 0 ρ)
def canB(c:Nat):SB→SB×List SE
 | .d e=>(.d (.v c),[e])
 |x=>(x,[])
def canBs:Nat→List SB→List SB×List SE
 |_,[]=>([],[])
 |c,x::xs=>match canB c x with
  |(y,es)=>match canBs (c+es.length) xs with
   |(ys,fs)=>(y::ys,es++fs)
def canT:Nat→List (SB ⊕ List SB)→List (SB ⊕ List SB)×List SE
 |_,[]=>([],[])
 |c,.inl x::xs=>match canB c x with
  |(y,es)=>match canT (c+es.length) xs with
   |(ys,fs)=>(.inl y::ys,es++fs)
 |c,.inr x::xs=>match canBs c x with
  |(y,es)=>match canT (c+es.length) xs with
   |(ys,fs)=>(.inr y::ys,es++fs)
def canC(c:Nat):SC→SC×List SE
 | .b x=>match canB c x with
  |(y,es)=>(.b y,es)
 | .agg xs=>match canBs c xs with
  |(ys,es)=>(.agg ys,es)
 | .tup xs=>match canT c xs with
  |(ys,es)=>(.tup ys,es)
 | .ptr b o=>(.ptr b o,[])
 | .ept r k i o=>(.ept r k (.v c) o,[i])
 | .dpt i o=>(.dpt c o,[.v i])
 | .any=>(.any,[])
def canSl(kn:Gs):Nat→List (Nat×SG)→List (Nat×SG)×List SE
 |_,[]=>([],[])
 |c,(d,g)::l=>if g.gs.all (fun p=>decide (p∈kn)) then (match canC c g.c with
   |(y,es)=>match canSl kn (c+es.length) l with
    |(ys,fs)=>((d,⟨[],y⟩)::ys,es++fs))
  else match canSl kn c l with
   |(ys,fs)=>((d,⟨[],.any⟩)::ys,fs)
def canBx:Nat→List (Nat×List SB)→List (Nat×List SB)×List SE
 |_,[]=>([],[])
 |c,(d,x)::l=>match canBs c x with
  |(y,es)=>match canBx (c+es.length) l with
   |(ys,fs)=>((d,y)::ys,es++fs)
def canRw:Nat→List (Nat×SR)→List (Nat×SR)×List SE
 |_,[]=>([],[])
 |c,(d,x)::l=>match canRw (c+1) l with
   |(ys,fs)=>((d,{x with e:=.v c })::ys,x.e::fs)
def insK(d:Nat):List Nat→List Nat
 |[]=>[d]
 |e::l=>if d < e then d::e::l else if d=e then e::l else e::insK d l
def keysK{α:Type}:List (Nat×α)→List Nat
 |[]=>[]
 |(d,_)::l=>insK d (keysK l)
def SS.keys(S:SS):Keep:=⟨keysK S.sl,keysK S.bx,keysK S.rw⟩
def canS(kn:Gs)(S:SS):SS×List SE:=
 match canSl kn 0 (S.keep S.keys).sl with
 |(sl,es)=>match canBx es.length (S.keep S.keys).bx with
  |(bx,fs)=>match canRw (es.length+fs.length) (S.keep S.keys).rw with
   |(rw,gs)=>(⟨sl,bx,rw⟩,es++(fs++gs))
section
variable {ρ:List D}
theorem nth_mid{α:Type}:∀(l:List α) (x:α) (m:List α),nth (l++([x]++m)) l.length=some x:=fun l x m=>nth_new l x m
theorem canB_ok{c:Nat}{x y:SB}{es:List SE}{v:C}{σ:List D}(hc:canB c x=(y,es))(hx:SBr ρ x v)(he:evE ρ es=some σ){σ0 σ1:List D}(h0:σ0.length=c):SBr (σ0++(σ++σ1)) y v:=by
 subst h0;cases x with
 |d e=>
  cases hc;obtain⟨z,h1,rfl⟩:=hx;obtain⟨w,h2,rfl⟩:=evE_one he;rw[h1]at h2;cases h2;exact⟨z,nth_mid _ _ _,rfl⟩
 |nil k fl=>cases hc;exact hx
 |ref r=>cases hc;exact hx
 |any=>cases hc;trivial
theorem evE_parts:∀{es fs:List SE} {σ:List D},evE ρ (es++fs)=some σ→∃σ1 σ2,evE ρ es=some σ1∧evE ρ fs=some σ2∧σ=σ1++σ2
 |[],_,σ,h=>⟨[],σ,rfl,h,rfl⟩
 |e::es,_,_,h=>by
  obtain⟨x,ys,h1,h2,rfl⟩:=evE_cons (es:=es++_) h;obtain⟨σ1,σ2,h3,h4,rfl⟩:=evE_parts h2;exact⟨x::σ1,σ2,by simp only[evE,h1,h3,Option.map_some],h4,rfl⟩
theorem canBs_ok:∀{xs:List SB} {c:Nat} {ys:List SB} {es:List SE} {vs:List C} {σ σ0 σ1:List D},canBs c xs=(ys,es)→SBrs ρ xs vs→evE ρ es=some σ→σ0.length=c→SBrs (σ0++(σ++σ1)) ys vs
 |[],_,_,_,_,_,_,_,hc,hx,he,h0=>by
  cases hc;exact hx
 |x::xs,c,ys,es,vs,σ,σ0,σ1,hc,⟨v,vs',hv,h1,h2⟩,he,h0=>by
  subst hv;simp only[canBs]at hc;generalize h3:canB c x=q at hc;obtain⟨y,es1⟩:=q;simp only at hc
  generalize h4:canBs (c+es1.length) xs=q at hc;obtain⟨ys',fs⟩:=q;cases hc;obtain⟨τ1,τ2,h5,h6,rfl⟩:=evE_parts he;refine⟨v,vs',rfl,?_,?_⟩
  ·have:=canB_ok h3 h1 h5 h0 (σ1:=τ2++σ1)
   simpa only [List.append_assoc] using this
  ·have:=canBs_ok h4 h2 h6 (σ0:=σ0++τ1) (σ1:=σ1) (by rw[List.length_append,h0,evE_map h5])
   simpa only [List.append_assoc] using this
theorem canT_ok:∀{xs:List (SB ⊕ List SB)} {c:Nat} {ys:List (SB ⊕ List SB)} {es:List SE} {vs:List C} {σ σ0 σ1:List D},canT c xs=(ys,es)→STr ρ xs vs→evE ρ es=some σ→σ0.length=c→STr (σ0++(σ++σ1)) ys vs
 |[],_,_,_,_,_,_,_,hc,hx,he,h0=>by
  cases hc;exact hx
 | .inl x::xs,c,ys,es,vs,σ,σ0,σ1,hc,⟨v,vs',hv,h1,h2⟩,he,h0=>by
  subst hv;simp only[canT]at hc;generalize h3:canB c x=q at hc;obtain⟨y,es1⟩:=q;simp only at hc
  generalize h4:canT (c+es1.length) xs=q at hc;obtain⟨ys',fs⟩:=q;cases hc;obtain⟨τ1,τ2,h5,h6,rfl⟩:=evE_parts he;refine⟨v,vs',rfl,?_,?_⟩
  ·have:=canB_ok h3 h1 h5 h0 (σ1:=τ2++σ1)
   simpa only [List.append_assoc] using this
  ·have:=canT_ok h4 h2 h6 (σ0:=σ0++τ1) (σ1:=σ1) (by rw[List.length_append,h0,evE_map h5])
   simpa only [List.append_assoc] using this
 | .inr x::xs,c,ys,es,vs,σ,σ0,σ1,hc,⟨v,vs',hv,h1,h2⟩,he,h0=>by
  subst hv;simp only[canT]at hc;generalize h3:canBs c x=q at hc;obtain⟨y,es1⟩:=q;simp only at hc
  generalize h4:canT (c+es1.length) xs=q at hc;obtain⟨ys',fs⟩:=q;cases hc;obtain⟨τ1,τ2,h5,h6,rfl⟩:=evE_parts he;refine⟨v,vs',rfl,?_,?_⟩
  ·have:=canBs_ok h3 h1 h5 h0 (σ1:=τ2++σ1)
   simpa only [List.append_assoc] using this
  ·have:=canT_ok h4 h2 h6 (σ0:=σ0++τ1) (σ1:=σ1) (by rw[List.length_append,h0,evE_map h5])
   simpa only [List.append_assoc] using this
theorem canC_ok{c:Nat}{x y:SC}{es:List SE}{v:C}{σ:List D}(hc:canC c x=(y,es))(hx:SCr ρ x v)(he:evE ρ es=some σ){σ0 σ1:List D}(h0:σ0.length=c):SCr (σ0++(σ++σ1)) y v:=by
 cases x with
 |b x=>
  simp only[canC]at hc;generalize h3:canB c x=q at hc;obtain⟨y',es1⟩:=q;cases hc;exact canB_ok h3 hx he h0
 |agg xs=>
  simp only[canC]at hc;generalize h3:canBs c xs=q at hc;obtain⟨y',es1⟩:=q;cases hc;obtain⟨cs,rfl,h1⟩:=hx;exact⟨cs,rfl,canBs_ok h3 h1 he h0⟩
 |tup xs=>
  simp only[canC]at hc;generalize h3:canT c xs=q at hc;obtain⟨y',es1⟩:=q;cases hc;obtain⟨cs,rfl,h1⟩:=hx;exact⟨cs,rfl,canT_ok h3 h1 he h0⟩
 |ptr b o=>cases hc;exact hx
 |ept r k i o=>
  cases hc;subst h0;obtain⟨n,h1,rfl⟩:=hx;obtain⟨w,h2,rfl⟩:=evE_one he;rw[h1]at h2;cases h2;exact⟨n,nth_mid _ _ _,rfl⟩
 |dpt i o=>
  cases hc;subst h0;obtain⟨x,cs,h1,h2,rfl⟩:=hx;obtain⟨w,h3,rfl⟩:=evE_one he;rw[SE.d,h1]at h3;cases h3;exact⟨x,cs,nth_mid _ _ _,h2,rfl⟩
 |any=>cases hc;trivial
theorem canSl_ok{kn:Gs}(hk:gsO ρ kn=some true):∀{l:List (Nat×SG)} {c:Nat} {l':List (Nat×SG)} {es:List SE} {σ σ0 σ1:List D},canSl kn c l=(l',es)→evE ρ es=some σ→σ0.length=c→
  ∀d g,look l' d=some g→∃g0,look l d=some g0∧∀v,SGr ρ g0 v→SGr (σ0++(σ++σ1)) g v
 |[],_,_,_,_,_,_,hc,he,h0=>by
  cases hc;intro d g h;cases h
 |(d0,g0)::l,c,l',es,σ,σ0,σ1,hc,he,h0=>by
  intro d g h;simp only[canSl]at hc
  split at hc
  ·rename_i hg;generalize h3:canC c g0.c=q at hc;obtain⟨y,es1⟩:=q;simp only at hc
   generalize h4:canSl kn (c+es1.length) l=q at hc;obtain⟨ys',fs⟩:=q;cases hc;obtain⟨τ1,τ2,h5,h6,rfl⟩:=evE_parts he;simp only[look]at h ⊢
   split at h
   ·rename_i hd;cases h;refine⟨g0,by rw[if_pos hd],fun v hv=>?_⟩;obtain⟨b,q1,q2,q3⟩:=hv;rw[gs_sub hk hg]at q1;cases q1;have:=canC_ok h3 (q2 rfl) h5 h0 (σ1:=τ2++σ1);exact SGr.nil (by simpa only [List.append_assoc] using this)
   ·rename_i hd;rw[if_neg hd];have:=canSl_ok hk h4 h6 (σ0:=σ0++τ1) (σ1:=σ1) (by rw[List.length_append,h0,evE_map h5]) d g h
    simpa only [List.append_assoc] using this
  ·generalize h4:canSl kn c l=q at hc;obtain⟨ys',fs⟩:=q;cases hc;simp only[look]at h ⊢
   split at h
   ·rename_i hd;cases h;exact⟨g0,by rw[if_pos hd],fun v hv=>SGr.nil trivial⟩
   ·rename_i hd;rw[if_neg hd];exact canSl_ok hk h4 he h0 d g h
theorem canBx_ok:∀{l:List (Nat×List SB)} {c:Nat} {l':List (Nat×List SB)} {es:List SE} {σ σ0 σ1:List D},canBx c l=(l',es)→evE ρ es=some σ→σ0.length=c→
  ∀d g,look l' d=some g→∃g0,look l d=some g0∧∀v,SBrs ρ g0 v→SBrs (σ0++(σ++σ1)) g v
 |[],_,_,_,_,_,_,hc,he,h0=>by
  cases hc;intro d g h;cases h
 |(d0,g0)::l,c,l',es,σ,σ0,σ1,hc,he,h0=>by
  intro d g h;simp only[canBx]at hc;generalize h3:canBs c g0=q at hc;obtain⟨y,es1⟩:=q;simp only at hc
  generalize h4:canBx (c+es1.length) l=q at hc;obtain⟨ys',fs⟩:=q;cases hc;obtain⟨τ1,τ2,h5,h6,rfl⟩:=evE_parts he;simp only[look]at h ⊢
  split at h
  ·rename_i hd;cases h;refine⟨g0,by rw[if_pos hd],fun v hv=>?_⟩;have:=canBs_ok h3 hv h5 h0 (σ1:=τ2++σ1)
   simpa only [List.append_assoc] using this
  ·rename_i hd;rw[if_neg hd];have:=canBx_ok h4 h6 (σ0:=σ0++τ1) (σ1:=σ1) (by rw[List.length_append,h0,evE_map h5]) d g h
   simpa only [List.append_assoc] using this
theorem canRw_ok:∀{l:List (Nat×SR)} {c:Nat} {l':List (Nat×SR)} {es:List SE} {σ σ0 σ1:List D},canRw c l=(l',es)→evE ρ es=some σ→σ0.length=c→
  ∀d g,look l' d=some g→∃g0,look l d=some g0∧∀v,SRr ρ g0 v→SRr (σ0++(σ++σ1)) g v
 |[],_,_,_,_,_,_,hc,he,h0=>by
  cases hc;intro d g h;cases h
 |(d0,g0)::l,c,l',es,σ,σ0,σ1,hc,he,h0=>by
  intro d g h;simp only[canRw]at hc;generalize h4:canRw (c+1) l=q at hc;obtain⟨ys',fs⟩:=q;cases hc;obtain⟨x,τ2,h5,h6,rfl⟩:=evE_cons he;simp only[look]at h ⊢
  split at h
  ·rename_i hd;cases h;refine⟨g0,by rw[if_pos hd],fun v hv=>?_⟩;obtain⟨ess,w1,rfl⟩:=hv;rw[h5]at w1;cases w1;subst h0;exact⟨ess,nth_new σ0 _ (τ2++σ1),rfl⟩
  ·rename_i hd;rw[if_neg hd];have:=canRw_ok h4 h6 (σ0:=σ0++[x]) (σ1:=σ1) (by rw[List.length_append,h0];rfl) d g h
   simpa only [List.append_assoc,List.cons_append,List.nil_append] using this
theorem Rel.weak{S:SS}{s:St}(h:Rel ρ S s)(kp:Keep):Rel ρ (S.keep kp) s:=
 ⟨fun d g hl=>h.sl d g (keep_some _ _ hl).1,fun b xs hl=>h.bx b xs (keep_some _ _ hl).1,fun r x hl=>h.rw r x (keep_some _ _ hl).1⟩
theorem canS_ok{S S':SS}{s:St}{kn:Gs}{es:List SE}{σ:List D}(h:Rel ρ S s)(hk:gsO ρ kn=some true)(hc:canS kn S=(S',es))(he:evE ρ es=some σ):Rel σ S' s:=by
 have h:=h.weak S.keys;unfold canS at hc;generalize h1:canSl kn 0 (S.keep S.keys).sl=q at hc;obtain⟨sl,es1⟩:=q;simp only at hc
 generalize h2:canBx es1.length (S.keep S.keys).bx=q at hc;obtain⟨bx,es2⟩:=q;simp only at hc
 generalize h3:canRw (es1.length+es2.length) (S.keep S.keys).rw=q at hc;obtain⟨rw_,es3⟩:=q;cases hc;obtain⟨σ1,τ,g1,g2,rfl⟩:=evE_parts he;obtain⟨σ2,σ3,g3,g4,rfl⟩:=evE_parts g2;refine⟨fun d g hl=>?_,fun b xs hl=>?_,fun r x hl=>?_⟩
 ·obtain⟨g0,q1,q2⟩:=canSl_ok hk h1 g1 (σ0:=[]) (σ1:=σ2++σ3) rfl d g hl;exact q2 _ (h.sl d g0 q1)
 ·obtain⟨g0,q1,q2⟩:=canBx_ok h2 g3 (σ0:=σ1) (σ1:=σ3) (evE_map g1) b xs hl;obtain⟨cs,q3,q4⟩:=h.bx b g0 q1;exact⟨cs,q3,q2 _ q4⟩
 ·obtain⟨g0,q1,q2⟩:=canRw_ok h3 g4 (σ0:=σ1++σ2) (σ1:=[]) (by rw[List.length_append,evE_map g1,evE_map g3]) r x hl;obtain⟨cs,q3,q4⟩:=h.rw r g0 q1;refine⟨cs,q3,?_⟩;have:=q2 _ q4
  simpa only [List.append_assoc,List.append_nil] using this
end
end
end Go.Proofs.YtcdjbelccndadaaGreatDoor
