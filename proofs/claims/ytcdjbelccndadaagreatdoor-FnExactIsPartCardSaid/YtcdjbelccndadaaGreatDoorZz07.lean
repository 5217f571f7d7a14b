/- Part of the proof. Condition: none. -/
import Derived.Test.YtcdjbelccndadaaGreatDoorZz06
set_option linter.unusedVariables false
set_option linter.unusedSimpArgs false
namespace Go.Proofs.YtcdjbelccndadaaGreatDoor
section
attribute [go_sem] thn blk finR nrd evCa rsl
section
variable (T:Nat→Option KF)(cf:Cf)(mf:Mf)(a b:K)(s:St)(d:Option Nat)(o:KO)(x y:Option (Ex×St))
@[go_sem] theorem y1:cnd T mf (.d (.bool true)) a b s=ev T mf a s:=rfl
@[go_sem] theorem y2:cnd T mf (.d (.bool false)) a b s=ev T mf b s:=rfl
@[go_sem] theorem y3:ife (.d (.bool true)) x y=x:=rfl
@[go_sem] theorem y4:ife (.d (.bool false)) x y=y:=rfl
@[go_sem] theorem y5:gdn cf mf s d o true (.d (.bool true))=evO cf mf s d o:=rfl
@[go_sem] theorem y6:gdn cf mf s d o false (.d (.bool false))=evO cf mf s d o:=rfl
@[go_sem] theorem y7:gdn cf mf s d o true (.d (.bool false))=some (s.put d .und):=rfl
@[go_sem] theorem y8:gdn cf mf s d o false (.d (.bool true))=some (s.put d .und):=rfl
@[go_sem] theorem y9(w:Bool):gdn cf mf s d o w .und=some (s.put d .und):=rfl
end
set_option maxRecDepth 100000
set_option maxHeartbeats 4000000
theorem mkP(a:Int)(t:ByteArray)(l:List XPat):evPO (.mkl 3 false) [.int .i64 a,.str t,dPats l]=some (.list 3 false [[.int .i64 a,.str t,dPats l]]):=po_mkl_one 3 _ rfl (by decide)
theorem mkP2(a b:Int)(t u:ByteArray)(l m:D):evPO (.mkl 3 false) [.int .i64 a,.str t,l,.int .i64 b,.str u,m]=some (.list 3 false [[.int .i64 a,.str t,l],[.int .i64 b,.str u,m]]):=by
 simp[evPO,chunk]
theorem appP{l:List XPat}(h:l.length≤mg)(op:Int)(t:ByteArray)(ks:List XPat):evPO (.app 3 48) [dPats l,.list 3 false [[.int .i64 op,.str t,dPats ks]]]=some (dPats (l++[⟨op,t,ks⟩])):=by
 have h:=po_appN 3 48 false (l.map ePat) [[.int .i64 op,.str t,dPats ks]] (by decide) (by simp only[mg,List.length_map,List.length_cons,List.length_nil]at *;omega);rw[h];simp[dPats,ePat_eq]
theorem P1(a:Int)(t:ByteArray)(ks:List XPat):D.list 3 false [[.int .i64 a,.str t,dPats ks]]=dPats [⟨a,t,ks⟩]:=by simp[dPats,ePat_eq]
theorem P2(a b:Int)(t u:ByteArray)(ks ms:List XPat):D.list 3 false [[.int .i64 a,.str t,dPats ks],[.int .i64 b,.str u,dPats ms]]=dPats [⟨a,t,ks⟩,⟨b,u,ms⟩]:=by simp[dPats,ePat_eq]
theorem appP1{l:List XPat}(h:l.length≤mg)(x:XPat):evPO (.app 3 48) [dPats l,dPats [x]]=some (dPats (l++[x])):=by
 have:=appP h x.op x.text x.kids;rw[P1]at this;cases x;exact this
theorem appP0(op:Int)(t:ByteArray)(ks:List XPat):evPO (.app 3 48) [.list 3 false [],.list 3 false [[.int .i64 op,.str t,dPats ks]]]=some (dPats [⟨op,t,ks⟩]):=appP (l:=[]) (by decide) op t ks
theorem xpat_eta(p:XPat):(⟨p.op,p.text,p.kids⟩:XPat)=p:=by cases p;rfl
theorem q224_n(n:Nat):∀p:XPat,SizeOf.sizeOf p < n→pOk 64 p=true→G 224 (ePat p)=some (0,ePat p):=by
 induction n with
 |zero=>intro p h;omega
 |succ n ih=>
  intro p hz hp;have hlen:=pOk_len hp;have hk:∀k∈p.kids,G 224 (ePat k)=some (0,ePat k):=fun k hk=>ih k (by have:=XPat.kid hk;omega) (pOk_kid hp hk);refine gOf s224 (by rw[ePat_eq];rfl) ?_;have hl:=gl_nilg (b:=lB G l224_0) p.kids (fun e=>e) (fun i=>(0,[.int .i64 (i:Int),.int .i64 p.op,.str p.text,dPats p.kids,.int .i64 0,.str ⟨#[]⟩,.int .i64 p.op,.str p.text]))
   (fun i a=>(1,[.int .i64 (i:Int),.int .i64 p.op,.str p.text,dPats p.kids,.int .i64 0,.str ⟨#[]⟩,.int .i64 p.op,.str p.text,dPats a]))
   (0,[.int .i64 0,.bool false,.int .i64 p.op,.str p.text,dPats p.kids,.int .i64 0,.str ⟨#[]⟩,.int .i64 p.op,.str p.text])
   (fun a=>(1,[.int .i64 p.kids.length,.bool false,.int .i64 p.op,.str p.text,dPats p.kids,.int .i64 0,.str ⟨#[]⟩,.int .i64 p.op,.str p.text,dPats a])) (by
    intro k hn;have hi:=nth_len hn;have hw:=wj (i:=0) (n:=p.kids.length) hi (by simp only[mg];omega);have e1:=hk k (nth_in hn);have e2:=el_P hn;rw[n0]at e2;have hw1:IntKind.i64.wrap 1=1:=wrap_i64 (by decide);rw[ePat_eq]at e1;have hi':(0:Int) < p.kids.length:=by omega
    simp only[go_sem,lB_,l224_0,n0,hi',e2,po_hasP];simp only[go_sem,ePat_eq k,e1,pl2,mkP,appP0,xpat_eta,hw1]) (by
    intro i k hn hp';have hi:=nth_len hn;have hw:=wj (i:=i) (n:=p.kids.length) hi (by simp only[mg];omega);have e1:=hk k (nth_in hn);have e2:=el_P hn;have e3:=fun (op:Int) (t:ByteArray) (ks:List XPat)=>appP (l:=p.kids.take i) (by rw[List.length_take];simp only[mg];omega) op t ks;rw[ePat_eq]at e1;simp only[go_sem,lB_,l224_0,List.map_id',hi,e2,po_hasP];simp only[go_sem,ePat_eq k,e1,pl2,mkP,e3,xpat_eta,hw]) (by
    intro h;simp only[go_sem,lB_,l224_0,h,n0,List.length_nil,Int.lt_irrefl]) (by
    intro h;simp only[go_sem,lB_,l224_0,Nat.lt_irrefl,List.map_id'])
  rw[n0]at hl;simp only[go_sem,t224,ePat_eq p,hl];cases hst:p.kids with
  |nil=>simp only[go_sem,List.isEmpty_nil];rfl
  |cons s l=>simp only[go_sem,List.isEmpty_cons,List.map_id']
theorem q224{p:XPat}(hp:pOk 64 p=true):G 224 (ePat p)=some (0,ePat p):=q224_n _ p (Nat.lt_succ_self _) hp
section
variable {s:ByteArray} {alt:Nat→PR}
theorem l225_step(h30:s.size≤30){i:Nat}{l:List XPat}(hl:l.length≤100)(hM:pMore s i=true)(h222:RdA 222 s i 1 3 false (pAtom alt s i)) :
  ∃(p:XPat) (k:Nat) (b:Bool),lB G l225_0 (0,[.int .i64 0,.str ⟨#[]⟩,.str s,.int .i64 (i:Int),.bool false,dPats l])=some (.go (0,[.int .i64 0,.str ⟨#[]⟩,.str s,.int .i64 (k:Int),.bool b,dPats (l++[p])]))∧PA s i 1 (pItem alt s i) p k b:=by
 have hs:s.size≤mg:=by simp only[mg];omega
 have hll:l.length≤mg:=by simp only[mg];omega
 simp only[pMore,Bool.and_eq_true,decide_eq_true_eq,Bool.not_eq_true',decide_eq_false_iff_not]at hM;obtain⟨hi,m1,m2⟩:=hM;have f4:=po_six s i hi;have fa:=fun op t ks=>appP hll op t ks;have fb:=fun x=>appP1 hll x;obtain⟨j,p,k,b,hj,hg,p1,p2,p3,p4⟩:=h222;simp only[ePat_eq,List.cons_append,List.nil_append]at hg;cases b with
 |true=>
  have f2:=fun c=>q216_b (s:=s) (i:=(k:Int)) (c:=c);have hr:pItem alt s i=none:=by
   unfold pItem;cases hr:pAtom alt s i with
   |none=>rfl
   |some q=>rw[hr]at p4;cases p4.1
  rw[hr];refine⟨p,k,true,?_,p1,p2,p3,rfl⟩
  match j,hj with
  |0,_=>simp only[go_sem,hi,m1,m2,f4,hg,pl2,mkP,fa,xpat_eta,lB_,l225_0,f2]
  |1,_=>simp only[go_sem,hi,m1,m2,f4,hg,npl3,mkP,fa,xpat_eta,lB_,l225_0,f2]
  |2,_=>simp only[go_sem,hi,m1,m2,f4,hg,mkP,fa,xpat_eta,lB_,l225_0,f2]
 |false=>
  cases hr:pAtom alt s i with
  |none=>rw[hr]at p4;cases p4
  |some q=>
   rw[hr]at p4;obtain⟨_,rfl,p5⟩:=p4;have hit:pItem alt s i=some (pSuf s p k):=by rw[pItem,hr];rfl
   have g1:=pSuf_ok (n:=64) (by decide) (s:=s) k p1;have g2:=pSuf_le s p k;have q4:=q224 p1;rw[ePat_eq]at q4;have h3:ePat ⟨4,eT,[p]⟩=[.int .i64 4,.str ⟨#[]⟩,dPats [p]]:=ePat_eq _;rw[hit];unfold pSuf at g1 g2 ⊢;cases c1:isAt s k 42 with
   |true=>
    have f2:=q216_t hs c1;have hk:=isAt_lt c1;rw[c1]at g1 g2;refine⟨⟨4,eT,[p]⟩,k+1,false,?_,g1,by omega,by omega,rfl,rfl,by omega⟩
    match j,hj with
    |0,_=>simp only[go_sem,hi,m1,m2,f4,hg,pl2,mkP,fb,xpat_eta,eT,lB_,l225_0,f2,P1]
    |1,_=>simp only[go_sem,hi,m1,m2,f4,hg,npl3,mkP,fb,xpat_eta,eT,lB_,l225_0,f2,P1]
    |2,_=>simp only[go_sem,hi,m1,m2,f4,hg,mkP,fb,xpat_eta,eT,lB_,l225_0,f2,P1]
   |false=>
    have f2:=q216_f c1;rw[c1]at g1 g2;cases c2:isAt s k 43 with
    |true=>
     have f3:=q216_t hs c2;have hk:=isAt_lt c2;rw[c2]at g1 g2;refine⟨⟨2,eT,[p,⟨4,eT,[p]⟩]⟩,k+1,false,?_,g1,by omega,by omega,rfl,rfl,by omega⟩
     match j,hj with
     |0,_=>simp only[go_sem,hi,m1,m2,f4,hg,pl2,mkP,fb,xpat_eta,eT,lB_,l225_0,f2,f3,q4,P1,mkP2,P2]
     |1,_=>simp only[go_sem,hi,m1,m2,f4,hg,pl2,npl3,mkP,fb,xpat_eta,eT,lB_,l225_0,f2,f3,q4,P1,mkP2,P2]
     |2,_=>simp only[go_sem,hi,m1,m2,f4,hg,pl2,mkP,fb,xpat_eta,eT,lB_,l225_0,f2,f3,q4,P1,mkP2,P2]
    |false=>
     have f3:=q216_f c2;rw[c2]at g1 g2;cases c3:isAt s k 63 with
     |true=>
      have f5:=q216_t hs c3;have hk:=isAt_lt c3;rw[c3]at g1 g2;refine⟨⟨5,eT,[p]⟩,k+1,false,?_,g1,by omega,by omega,rfl,rfl,by omega⟩
      match j,hj with
      |0,_=>simp only[go_sem,hi,m1,m2,f4,hg,pl2,mkP,fb,xpat_eta,eT,lB_,l225_0,f2,f3,f5,P1]
      |1,_=>simp only[go_sem,hi,m1,m2,f4,hg,npl3,mkP,fb,xpat_eta,eT,lB_,l225_0,f2,f3,f5,P1]
      |2,_=>simp only[go_sem,hi,m1,m2,f4,hg,mkP,fb,xpat_eta,eT,lB_,l225_0,f2,f3,f5,P1]
     |false=>
      have f5:=q216_f c3;refine⟨p,k,false,?_,p1,p2,p3,rfl,rfl,p5⟩
      match j,hj with
      |0,_=>simp only[go_sem,hi,m1,m2,f4,hg,pl2,mkP,fa,xpat_eta,lB_,l225_0,f2,f3,f5]
      |1,_=>simp only[go_sem,hi,m1,m2,f4,hg,npl3,mkP,fa,xpat_eta,lB_,l225_0,f2,f3,f5]
      |2,_=>simp only[go_sem,hi,m1,m2,f4,hg,mkP,fa,xpat_eta,lB_,l225_0,f2,f3,f5]
def Lsx(l:List XPat)(n:Nat):Prop:=l.length≤n∧∀q∈l,pOk 64 q=true
theorem Lsx_app{l:List XPat}{n m:Nat}{p:XPat}(h:Lsx l n)(hp:pOk 64 p=true)(hm:n+1≤m):Lsx (l++[p]) m:=by
 refine⟨by rw[List.length_append];have:=h.1;simp;omega,fun q hq=>?_⟩;rcases List.mem_append.1 hq with hq|hq
 ·exact h.2 q hq
 ·rw[List.mem_singleton.1 hq];exact hp
def RdL(i:Nat)(s:ByteArray)(l:List XPat)(r:Option (List XPat×Nat))(l':List XPat)(k:Nat)(b:Bool):Prop:=Lsx l' 40∧i≤k∧k≤s.size∧match r with
 |some q=>b=false∧l'=l++q.1∧k=q.2
 |none=>b=true
theorem RdL_cons{i j:Nat}{l l':List XPat}{p:XPat}{k:Nat}{b:Bool}{r:Option (List XPat×Nat)}(hij:i≤j)(h:RdL j s (l++[p]) r l' k b):RdL i s l (r.map fun q=>(p::q.1,q.2)) l' k b:=by
 obtain⟨h1,h2,h3,h4⟩:=h;refine⟨h1,by omega,h3,?_⟩;cases r with
 |none=>exact h4
 |some q=>
  obtain⟨h5,h6,h7⟩:=h4;exact⟨h5,by rw[h6,List.append_assoc];rfl,h7⟩
theorem l225_ok(h30:s.size≤30){i0:Nat}(hA:∀j,i0 < j→j≤s.size→RdA 223 s j 0 2 false (alt j)):∀(g i:Nat) (l:List XPat),i0≤i→i≤s.size→s.size+1 - i≤g→Lsx l i→
  ∃(l':List XPat) (k:Nat) (b:Bool),gloop (lB G l225_0) (0,[.int .i64 0,.str ⟨#[]⟩,.str s,.int .i64 (i:Int),.bool false,dPats l])=some (0,[.bool false,.int .i64 0,.str ⟨#[]⟩,.str s,.int .i64 (k:Int),.bool b,dPats l'])∧RdL i s l (pItems alt s g i) l' k b:=by
 have hs:s.size≤mg:=by simp only[mg];omega
 intro g
 induction g with
 |zero=>intro i l _ h1 h2;omega
 |succ g ih=>
  intro i l h0 h1 h2 hl;simp only[pItems];cases hM:pMore s i with
  |false=>
   simp only[Bool.false_eq_true,if_false];refine⟨l,i,false,gloop_out ?_,⟨by have:=hl.1;omega,hl.2⟩,Nat.le_refl _,h1,rfl,by rw[List.append_nil],rfl⟩;by_cases hi:i < s.size
   ·have f4:=po_six s i hi;simp only[pMore,hi,decide_true,Bool.true_and]at hM;by_cases m1:bAt s i=124
    ·simp only[go_sem,lB_,l225_0,hi,m1,f4]
    ·have m2:bAt s i=41:=by
      by_cases m2:bAt s i=41
      ·exact m2
      ·simp[m1,m2]at hM
     have m3:¬(41:Int)=124:=by decide
     simp only[go_sem,lB_,l225_0,hi,m2,m3,f4]
   ·simp only[go_sem,lB_,l225_0,hi]
  |true=>
   have hi:i < s.size:=by simp only[pMore,Bool.and_eq_true,decide_eq_true_eq]at hM;exact hM.1
   simp only[if_true];obtain⟨p,k,b,e1,p1,p2,p3,p4⟩:=l225_step h30 (l:=l) (by have:=hl.1;omega) hM (q222 hs hi fun j hj hj'=>hA j (by omega) hj');cases hr:pItem alt s i with
   |none=>
    rw[hr]at p4;subst p4;refine⟨l++[p],k,true,(gloop_go e1).trans (gloop_out ?_),Lsx_app (n:=30) ⟨by have:=hl.1;omega,hl.2⟩ p1 (by decide),p2,p3,rfl⟩;simp only[go_sem,lB_,l225_0]
   |some q=>
    rw[hr]at p4;obtain⟨rfl,rfl,p5⟩:=p4;obtain⟨l',k',b',e2,e3⟩:=ih k (l++[p]) (by omega) p3 (by omega) (Lsx_app hl p1 (by omega));exact⟨l',k',b',(gloop_go e1).trans e2,RdL_cons (by omega) e3⟩
theorem eld_P{k:XPat}:evPO (.eld 3 0 3 false) [dPats [k],.int .i64 0]=some (.list 0 false [ePat k]):=by
 have h:nth ([k].map ePat) 0=some (ePat k):=rfl;simp only[evPO,Int.toNat_zero,h,ePat_len];simp
theorem chk_P{k:XPat}:evPO .chk [dPats [k],.int .i64 0]=some (.bool false):=(rfl)
theorem len_1{l:List XPat}:decide ((l.length:Int)=1)=decide (l.length=1):=by apply decide_eq_decide.2;omega
theorem wrap_n{op:Int}{l:List XPat}(h:l.length≠1):wrapP op l=⟨op,eT,l⟩:=by
 unfold wrapP;split
 ·exact absurd rfl h
 ·rfl
theorem q225(h30:s.size≤30){i:Nat}(h1:i≤s.size)(hA:∀j,i < j→j≤s.size→RdA 223 s j 0 2 false (alt j)):RdA 225 s i 0 2 false (pSeq alt s i):=by
 obtain⟨l',k,b,e1,e2,e3,e4,e5⟩:=l225_ok h30 hA (s.size+1) i [] (Nat.le_refl _) h1 (by omega) ⟨by simp,by simp⟩;have m0:evPO (.mkl 3 false) []=some (dPats []):=po_mkl0 3 false;have hP:PA s i 0 (pSeq alt s i) (wrapP 2 l') k b:=by
  refine⟨wrapP_ok (by have:=e2.1;omega) e2.2,e3,e4,?_⟩;unfold pSeq;cases hr:pItems alt s (s.size+1) i with
  |none=>rw[hr]at e5;exact e5
  |some q=>
   rw[hr]at e5;obtain⟨h5,h6,h7⟩:=e5;subst h6 h7;exact⟨h5,rfl,by omega⟩
 by_cases hl:l'.length=1
 ·obtain⟨p,rfl⟩:=List.length_eq_one_iff.1 hl;have hw:wrapP 2 [p]=p:=rfl;rw[hw]at hP;refine⟨0,p,k,b,by decide,gOf s225 rfl ?_,hP⟩;simp only[go_sem,t225,m0,e1,eld_P,chk_P,ePat_eq p]
 ·rw[wrap_n hl]at hP;refine⟨1,_,k,b,by decide,gOf s225 rfl ?_,hP⟩;simp only[go_sem,t225,m0,e1,len_1,hl,ePat_eq,eT]
theorem l223_ok(h30:s.size≤30){i0:Nat}(hA:∀j,i0 < j→j≤s.size→RdA 223 s j 0 2 false (alt j)):∀(g i:Nat) (l:List XPat),i0≤i→i≤s.size→s.size+1 - i≤g→Lsx l (i+1)→
  ∃(l':List XPat) (k:Nat) (b:Bool),gloop (lB G l223_0) (0,[.int .i64 0,.str ⟨#[]⟩,.str s,.int .i64 (i:Int),.bool false,dPats l])=some (0,[.bool false,.int .i64 0,.str ⟨#[]⟩,.str s,.int .i64 (k:Int),.bool b,dPats l'])∧RdL i s l (pBars alt s g i) l' k b:=by
 have hs:s.size≤mg:=by simp only[mg];omega
 intro g
 induction g with
 |zero=>intro i l _ h1 h2;omega
 |succ g ih=>
  intro i l h0 h1 h2 hl;simp only[pBars];cases hM:isAt s i 124 with
  |false=>
   have f1:=q216_f hM;simp only[Bool.false_eq_true,if_false];refine⟨l,i,false,gloop_out ?_,⟨by have:=hl.1;omega,hl.2⟩,Nat.le_refl _,h1,rfl,by rw[List.append_nil],rfl⟩;simp only[go_sem,lB_,l223_0,f1]
  |true=>
   have f1:=q216_t hs hM;have hi:=isAt_lt hM;have hll:l.length≤mg:=by have:=hl.1;simp only[mg];omega
   have fb:=fun x=>appP1 hll x;have fa:=fun op t ks=>appP hll op t ks;simp only[if_true];obtain⟨j,p,k,b,hj,hg,p1,p2,p3,p4⟩:=q225 h30 (i:=i+1) (by omega) fun j hj hj'=>hA j (by omega) hj';simp only[ePat_eq,List.cons_append,List.nil_append]at hg;have go:lB G l223_0 (0,[.int .i64 0,.str ⟨#[]⟩,.str s,.int .i64 (i:Int),.bool false,dPats l])=some (.go (0,[.int .i64 0,.str ⟨#[]⟩,.str s,.int .i64 (k:Int),.bool b,dPats (l++[p])])):=by
    match j,hj with
    |0,_=>simp only[go_sem,lB_,l223_0,f1,hg,npl3,mkP,fa,xpat_eta]
    |1,_=>simp only[go_sem,lB_,l223_0,f1,hg,mkP,fa,xpat_eta]
   cases hr:pSeq alt s (i+1) with
   |none=>
    rw[hr]at p4;subst p4;have f2:=fun c=>q216_b (s:=s) (i:=(k:Int)) (c:=c);refine⟨l++[p],k,true,(gloop_go go).trans (gloop_out ?_),Lsx_app (n:=32) ⟨by have:=hl.1;omega,hl.2⟩ p1 (by decide),by omega,p3,rfl⟩;simp only[go_sem,lB_,l223_0,f2]
   |some q=>
    rw[hr]at p4;obtain⟨rfl,rfl,p5⟩:=p4;obtain⟨l',k',b',e2,e3⟩:=ih k (l++[p]) (by omega) p3 (by omega) (Lsx_app hl p1 (by omega));exact⟨l',k',b',(gloop_go go).trans e2,RdL_cons (by omega) e3⟩
theorem q223_1(h30:s.size≤30){i:Nat}(h1:i≤s.size)(hA:∀j,i < j→j≤s.size→RdA 223 s j 0 2 false (alt j)):RdA 223 s i 0 2 false (pAlt1 alt s i):=by
 obtain⟨j,p,k,b,hj,hg,p1,p2,p3,p4⟩:=q225 h30 h1 hA;simp only[ePat_eq,List.cons_append,List.nil_append]at hg;have he:∃(l':List XPat) (k':Nat) (b':Bool),gloop (lB G l223_0) (0,[.int .i64 0,.str ⟨#[]⟩,.str s,.int .i64 (k:Int),.bool b,dPats [p]])=some (0,[.bool false,.int .i64 0,.str ⟨#[]⟩,.str s,.int .i64 (k':Int),.bool b',dPats l'])∧PA s i 0 (pAlt1 alt s i) (wrapP 3 l') k' b':=by
  unfold pAlt1;cases hr:pSeq alt s i with
  |none=>
   rw[hr]at p4;subst p4;have f2:=fun c=>q216_b (s:=s) (i:=(k:Int)) (c:=c);exact⟨[p],k,true,gloop_out (by simp only[go_sem,lB_,l223_0,f2]),p1,p2,p3,rfl⟩
  |some q=>
   rw[hr]at p4;obtain⟨rfl,rfl,p5⟩:=p4;obtain⟨l',k',b',e1,e2,e3,e4,e5⟩:=l223_ok h30 hA (s.size+1) k [p] p2 p3 (by omega) ⟨by simp,by simpa using p1⟩;refine⟨l',k',b',e1,wrapP_ok (by have:=e2.1;omega) e2.2,by omega,e4,?_⟩;dsimp only;cases hr2:pBars alt s (s.size+1) k with
   |none=>rw[hr2]at e5;exact e5
   |some q=>
    rw[hr2]at e5;obtain⟨h5,h6,h7⟩:=e5;subst h6 h7;exact⟨h5,rfl,by omega⟩
 obtain⟨l',k',b',e1,hP⟩:=he;have hg':∀(t:Nat×List D) (h:denT G (t223) 0 [.str s,.int .i64 (i:Int),.bool false]=some t),True:=fun _ _=>trivial;by_cases hl:l'.length=1
 ·obtain⟨q,rfl⟩:=List.length_eq_one_iff.1 hl;have hw:wrapP 3 [q]=q:=rfl;rw[hw]at hP;refine⟨0,q,k',b',by decide,gOf s223 rfl ?_,hP⟩
  match j,hj with
  |0,_=>simp only[go_sem,t223,hg,npl3,mkP,P1,xpat_eta,e1,eld_P,chk_P,ePat_eq q]
  |1,_=>simp only[go_sem,t223,hg,mkP,P1,xpat_eta,e1,eld_P,chk_P,ePat_eq q]
 ·rw[wrap_n hl]at hP;refine⟨1,_,k',b',by decide,gOf s223 rfl ?_,hP⟩
  match j,hj with
  |0,_=>simp only[go_sem,t223,hg,npl3,mkP,P1,xpat_eta,e1,len_1,hl,ePat_eq,eT]
  |1,_=>simp only[go_sem,t223,hg,mkP,P1,xpat_eta,e1,len_1,hl,ePat_eq,eT]
theorem q223_n(h30:s.size≤30):∀(g i:Nat),i≤s.size→s.size+1 - i≤g→RdA 223 s i 0 2 false (pAlt s g i)
 |0,i,h1,h2=>by omega
 |g+1,i,h1,h2=>q223_1 h30 h1 fun j hj hj'=>q223_n h30 g j hj' (by omega)
end
theorem gt30(n:Nat):decide ((30:Int) < (n:Int))=decide (30 < n):=by apply decide_eq_decide.2;omega
theorem ne_nn(a b:Nat):decide ((a:Int)=(b:Int))=decide (a=b):=by apply decide_eq_decide.2;omega
theorem q226{s:ByteArray}:∃j p,j < 3∧G 226 [.str s]=some (j,ePat p++[.bool (isPat s)])∧∀q,pText s=some q→p=q∧pOk 64 p=true:=by
 unfold isPat pText;by_cases h:30 < s.size
 ·refine⟨0,⟨0,eT,[]⟩,by decide,gOf s226 rfl ?_,fun q hq=>by rw[if_pos h]at hq;cases hq⟩;rw[if_pos h];simp only[go_sem,t226,gt30,h,ePat_eq,Option.isSome_none];rfl
 ·rw[if_neg h];obtain⟨j,p,k,b,hj,hg,p1,p2,p3,p4⟩:=q223_n (s:=s) (by omega) (s.size+1) 0 (by omega) (by omega);simp only[ePat_eq,List.cons_append,List.nil_append,n0]at hg;cases hr:pAlt s (s.size+1) 0 with
  |none=>
   rw[hr]at p4;subst p4;refine⟨0,⟨0,eT,[]⟩,by decide,gOf s226 rfl ?_,fun q hq=>by cases hq⟩
   match j,hj with
   |0,_=>simp only[go_sem,t226,gt30,h,hg,ePat_eq,Option.isSome_none];rfl
   |1,_=>simp only[go_sem,t226,gt30,h,hg,ePat_eq,Option.isSome_none];rfl
  |some q=>
   rw[hr]at p4;obtain⟨rfl,rfl,p5⟩:=p4;dsimp only;by_cases hk:k=s.size
   ·rw[if_pos hk];refine⟨j+1,p,by omega,gOf s226 rfl ?_,fun q hq=>by cases hq;exact⟨rfl,p1⟩⟩
    match j,hj with
    |0,_=>simp only[go_sem,t226,gt30,h,hg,hk,ePat_eq,Option.isSome_some]
    |1,_=>simp only[go_sem,t226,gt30,h,hg,hk,ePat_eq,Option.isSome_some]
   ·rw[if_neg hk];refine⟨0,⟨0,eT,[]⟩,by decide,gOf s226 rfl ?_,fun q hq=>by cases hq⟩
    match j,hj with
    |0,_=>simp only[go_sem,t226,gt30,ne_nn,h,hg,hk,ePat_eq,Option.isSome_none];rfl
    |1,_=>simp only[go_sem,t226,gt30,ne_nn,h,hg,hk,ePat_eq,Option.isSome_none];rfl
theorem q227(s:ByteArray):G 227 [.str s]=some (0,[.bool (isPat s)]):=by
 obtain⟨j,p,hj,hg,_⟩:=q226 (s:=s);simp only[ePat_eq,List.cons_append,List.nil_append]at hg;refine gOf s227 rfl ?_
 match j,hj with
 |0,_=>simp only[go_sem,t227,hg]
 |1,_=>simp only[go_sem,t227,hg]
 |2,_=>simp only[go_sem,t227,hg]
theorem q236{t s:ByteArray}(hs:s.size≤mg):G 236 [.str t,.str s]=some (0,[.bool (matT t s)]):=by
 obtain⟨j,p,hj,hg,hq⟩:=q226 (s:=t);simp only[ePat_eq,List.cons_append,List.nil_append]at hg;have pl1:∀b,evPO .pl [.bool b]=some (.bool false):=fun b=>rfl;refine gOf s236 rfl ?_;unfold matT;cases hp:pText t with
 |none=>
  have hi:isPat t=false:=by rw[isPat,hp];rfl
  rw[hi]at hg
  match j,hj with
  |0,_=>simp only[go_sem,t236,hg]
  |1,_=>simp only[go_sem,t236,hg]
  |2,_=>simp only[go_sem,t236,hg]
 |some q=>
  have hi:isPat t=true:=by rw[isPat,hp];rfl
  obtain⟨rfl,hok⟩:=hq q hp;have h5:=q235 hs hok;simp only[ePat_eq,List.cons_append,List.nil_append]at h5;rw[hi]at hg
  match j,hj with
  |0,_=>simp only[go_sem,t236,hg,h5,pl1]
  |1,_=>simp only[go_sem,t236,hg,h5]
  |2,_=>simp only[go_sem,t236,hg,h5,pl1]
end
section
set_option maxRecDepth 100000
set_option maxHeartbeats 4000000
def bC(f:Nat→Bool):List C:=(List.range 256).map fun x=>.d (.bool (f x))
def bV(f:Nat→Bool):List RV:=(List.range 256).map fun x=>.d (.bool (f x))
def eL(f:Nat→Bool)(n:Nat):List (List D):=((List.range n).filter f).map fun x:Nat=>[D.int .u8 (x:Int)]
def chT(f:Nat→Bool):ByteArray:=⟨(((List.range 256).filter f).map UInt8.ofNat).toArray⟩
theorem mz:((0:Nat):Int)=0:=(rfl)
theorem inC_map(f:Nat→Bool)(d:Nat):∀(l:List Nat) (j:Nat) (s:St),inCells d j (l.map fun x=>RV.d (.bool (f x))) s=(l.map fun x=>C.d (.bool (f x)),s)
 |[],j,s=>rfl
 |x::l,j,s=>by
  simp only[List.map_cons,inCells,inC_map f d l (j+1) s]
theorem inC_b(f:Nat→Bool)(d j:Nat)(s:St):inCells d j (bV f) s=(bC f,s):=inC_map f d _ j s
theorem kills_map(f:Nat→Bool)(i:Nat):∀(l:List Nat),C.kills i (l.map fun x=>C.d (.bool (f x)))=l.map fun x=>C.d (.bool (f x))
 |[]=>rfl
 |x::l=>by simp only[List.map_cons,C.kills,C.kill,kills_map f i l]
theorem kills_b(f:Nat→Bool)(i:Nat):C.kills i (bC f)=bC f:=kills_map f i _
theorem bC_cell(f:Nat→Bool):(bC f).all C.cell=true:=by rw[bC,List.all_map];exact List.all_eq_true.2 fun x _=>rfl
theorem bC_const(f:Nat→Bool):(bC f).all C.const=true:=by rw[bC,List.all_map];exact List.all_eq_true.2 fun x _=>rfl
theorem bC_len(f:Nat→Bool):(bC f).length=256:=by simp[bC]
theorem nth_rng{α:Type}{f:Nat→α}{n x:Nat}(h:x < n):nth ((List.range n).map f) x=some (f x):=by
 rw[nth_get];simp[h]
theorem bC_nth(f:Nat→Bool){x:Nat}(h:x < 256):nth (bC f) x=some (.d (.bool (f x))):=nth_rng h
theorem eL_succ(f:Nat→Bool)(n:Nat):eL f (n+1)=eL f n++(if f n=true then [[D.int .u8 (n:Int)]] else []):=by
 simp only[eL,List.range_succ,List.filter_append,List.map_append]
 congr 1
 by_cases h:f n=true<;>simp[h]
theorem eL_len(f:Nat→Bool)(n:Nat):(eL f n).length≤n:=by
 have:=List.length_filter_le f (List.range n)
 simpa [eL] using this
theorem bytesOf_m:∀(l:List Nat),bytesOf (l.map fun x:Nat=>[D.int .u8 (x:Int)])=some (l.map fun x:Nat=>(x:Int))
 |[]=>rfl
 |x::l=>by simp only[List.map_cons,bytesOf,bytesOf_m l,Option.map_some]
abbrev patZ:List C:=[.d (.int .i64 0),.d (.str ⟨#[]⟩),.nil 3 false]
def st276(f:Nat→Bool)(i:Nat):St:=⟨[(1,.ptr 1 0),(2,.ptr 2 0),(3,.ref 5),(6,.d (.int .i64 (i:Int)))],[(1,bC f),(2,patZ)],[(5,⟨eL f i,1,true,true,true,false⟩)]⟩
theorem l276_ok(f:Nat→Bool):ev T mf0 (.loop lp276_0) (st276 f 0)=some (.exit 0,⟨[(1,.ptr 1 0),(2,.ptr 2 0),(3,.ref 5),(6,.d (.int .i64 256)),(7,.d (.bool false))],[(1,bC f),(2,patZ)],[(5,⟨eL f 256,1,true,true,true,false⟩)]⟩):=by
 refine loop0 (st276 f) 256 (fun h=>by cases h) ?_ ?_
 ·simp only[go_sem,Nat.reduceEqDiff,Int.reduceLT,lp276_0,st276,show ((256:Nat):Int)=256 from rfl]
 ·intro i hi;have h1:((i:Int) < 256)=True:=by simp;omega
  have hw:IntKind.i64.wrap ((i:Int)+1)=((i+1:Nat):Int):=wi hi (by decide);have hu:IntKind.u8.wrap (i:Int)=(i:Int):=wrap_u8 (by omega);have hn:=bC_nth f hi;have he:=eL_succ f i;have hl:=eL_len f i;have r1:((eL f i).length+1≤room)=True:=eq_true (by simp only[room];omega);have r2:((eL f i).length+1≤maxLen)=True:=eq_true (by simp only[maxLen];omega);cases hf:f i with
  |true=>
   rw[hf,if_pos rfl]at he;rw[hf]at hn;simp only[go_sem,Nat.reduceEqDiff,Nat.reduceBNe,Nat.reduceLT,lp276_0,st276,h1,hw,hu,hn,hi,kills_b,Nat.mul_one,r1,r2,he,Int.natCast_nonneg]
  |false=>
   rw[hf,if_neg Bool.false_ne_true,List.append_nil]at he;rw[hf]at hn;simp only[go_sem,Nat.reduceEqDiff,lp276_0,st276,h1,hw,hn,hi,Nat.mul_one,he,Int.natCast_nonneg]
theorem q276(f:Nat→Bool):lim T 276 [.val true (bV f)]=some ([.val true [.d (.int .i64 1),.d (.str (chT f)),.row ⟨[],3,false,true,true,false⟩]],[]):=by
 have hl:=l276_ok f;have h0:eL f 0=[]:=rfl;have hb:bytesOf (eL f 256)=some (((List.range 256).filter f).map fun x:Nat=>(x:Int)):=bytesOf_m _;have hm:(((List.range 256).filter f).map fun x:Nat=>(x:Int)).map (fun n=>UInt8.ofNat n.toNat)=((List.range 256).filter f).map UInt8.ofNat:=by
  rw[List.map_map];rfl
 generalize hq:(((List.range 256).filter f).map fun x:Nat=>(x:Int))=q at hb hm;have hc:(⟨(q.map fun n=>UInt8.ofNat n.toNat).toArray⟩:ByteArray)=chT f:=by rw[hm];rfl
 rw[lim_fn (f:=276) rfl rfl];simp only[st276,h0,patZ,show ((0:Nat):Int)=0 from rfl]at hl;simp only[go_sem,Nat.reduceAdd,Nat.reduceEqDiff,Nat.reduceLeDiff,Nat.reduceBNe,Nat.reduceLT,inC_b,bC_cell,kills_b,hl,hb,hc]
abbrev mgK:Nat:=1048576
abbrev rdr(s:ByteArray)(i:Int)(b:Bool):A:=.box [.d (.str s),.d (.int .i64 i),.d (.bool b)]
abbrev bt(c:Int):A:=.val false [.d (.int .u8 c)]
abbrev ys(b:Bool):A:=.val false [.d (.bool b)]
theorem k279_a{s:ByteArray}{i i1 k k1:Int}{b b1 t:Bool}{op:Int}{tx:ByteArray}{kd:RV}(hk:(∃es,kd=.d (.list 3 false es))∨∃es,kd=.row ⟨es,3,false,false,true,true⟩)
  (h1:lim T 275 [rdr s i b,bt 40]=some ([ys true],[rdr s i1 b])) (h2:lim T 280 [rdr s i1 b]=some ([.val true [.d (.int .i64 op),.d (.str tx),kd]],[rdr s k b1]))
  (h3:lim T 275 [rdr s k b1,bt 41]=some ([ys t],[rdr s k1 b1])):lim T 279 [rdr s i b]=some ([.val true [.d (.int .i64 op),.d (.str tx),kd]],[rdr s k1 (b1 ||!t)]):=by
 have hz:(List.replicate 256 (C.d (.bool false)))=bC fun _=>false:=by rw[bC,List.map_const'];simp
 rw[lim_fn (f:=279) rfl rfl,hz];rcases hk with ⟨es,rfl⟩|⟨es,rfl⟩<;>cases t<;>cases b1<;>simp only[go_sem,Nat.reduceAdd,Nat.reduceEqDiff,Nat.reduceMul,Nat.reduceLeDiff,Nat.reduceBNe,bC_cell,bC_const,kills_b,bC_len,h1,h2,h3,Nat.reduceLeDiff]
theorem bC_set(f:Nat→Bool){x:Nat}(h:x < 256):List.take x (bC f)++[C.d (.bool true)]++List.drop (x+1) (bC f)=bC fun y=>f y ||decide (x=y):=by
 apply List.ext_getElem
 ·simp[bC];omega
 intro i h1 h2;simp only[bC_len]at h2;have e:∀g:Nat→Bool,(bC g)[i]'(by rw[bC_len];exact h2)=C.d (.bool (g i)):=fun g=>by simp[bC]
 rw[e];have hl:((bC f).take x).length=x:=by simp[bC];omega
 by_cases hx:i < x
 ·rw[List.getElem_append_left (by simp[hl];omega),List.getElem_append_left (by omega),List.getElem_take,e];have:¬x=i:=by omega
  simp[this]
 ·by_cases hx2:i=x
  ·subst hx2;rw[List.getElem_append_left (by simp[hl]),List.getElem_append_right (by omega)];simp[hl]
  ·rw[List.getElem_append_right (by simp[hl];omega),List.getElem_drop];have e2:x+1+(i - (List.take x (bC f)++[C.d (D.bool true)]).length)=i:=by simp[hl];omega
   simp only[e2];rw[e];have:¬x=i:=by omega
   simp[this]
theorem bC_drop(f:Nat→Bool):List.drop 256 (bC f)=[]:=List.drop_of_length_le (by rw[bC_len];exact Nat.le_refl _)
theorem bC_take(f:Nat→Bool):List.take 256 (bC f)=bC f:=List.take_of_length_le (by rw[bC_len];exact Nat.le_refl _)
theorem rd_map(f:Nat→Bool)(s:St):∀(l:List Nat),mapO (rdCell s) (l.map fun x=>C.d (.bool (f x)))=some (l.map fun x=>RV.d (.bool (f x)))
 |[]=>rfl
 |x::l=>by simp only[List.map_cons,mapO,rdCell,rd_map f s l,Option.map_some]
theorem rd_b(f:Nat→Bool)(s:St):mapO (rdCell s) (bC f)=some (bV f):=rd_map f s _
theorem rows_map(f:Nat→Bool):∀(l:List Nat),rowsOf (l.map fun x=>C.d (.bool (f x)))=[]
 |[]=>rfl
 |x::l=>by simp only[List.map_cons,rowsOf,rows_map f l]
theorem rows_b(f:Nat→Bool):rowsOf (bC f)=[]:=rows_map f _
abbrev any2(x:Nat):Nat→Bool:=fun y=>decide (32≤y) && decide (y < x)
def st0(c:List C)(x:Nat):St:=⟨[(0,.ptr 900 0),(2,.ptr 2 0),(3,.ptr 3 0),(5,.d (.int .i64 (x:Int)))],[(2,patZ),(3,bC (any2 x)),(900,c)],[]⟩
theorem any2_s{x:Nat}(h:32≤x):(fun y=>any2 x y ||decide (x=y))=any2 (x+1):=by
 funext y
 simp only[any2];by_cases h1:32≤y
 ·by_cases h2:y < x
  ·have:y < x+1:=by omega
   simp[h1,h2,this]
  ·by_cases h3:x=y
   ·subst h3;simp[h1]
   ·have:¬y < x+1:=by omega
    simp[h1,h2,h3,this]
 ·have:¬x=y:=by omega
  simp[h1,this]
theorem l279_0_ok(c:List C):ev T mf0 (.loop lp279_0) (st0 c 32)=some (.exit 1,⟨[(0,.ptr 900 0),(2,.ptr 2 0),(3,.ptr 3 0),(5,.d (.int .i64 127)),(28,.d (.bool false))],[(2,patZ),(3,bC (any2 127)),(900,c)],[]⟩):=by
 have h:∀m x,x+m=127→32≤x→ev T mf0 (.loop lp279_0) (st0 c x)=some (.exit 1,⟨[(0,.ptr 900 0),(2,.ptr 2 0),(3,.ptr 3 0),(5,.d (.int .i64 127)),(28,.d (.bool false))],[(2,patZ),(3,bC (any2 127)),(900,c)],[]⟩):=by
  intro m
  induction m with
  |zero=>
   intro x hx _;obtain rfl:x=127:=by omega
   rw[ev_loop];simp only[go_sem,Nat.reduceEqDiff,Int.reduceLE,lp279_0,st0,show ((127:Nat):Int)=127 from rfl]
  |succ m ih=>
   intro x hx h32;have h1:((x:Int)≤126)=True:=eq_true (by omega);have hw:IntKind.i64.wrap ((x:Int)+1)=((x+1:Nat):Int):=wi (n:=127) (by omega) (by decide);have h2:(x < 256)=True:=eq_true (by omega);have h3:(x+1≤256)=True:=eq_true (by omega);have hs:=bC_set (any2 x) (x:=x) (by omega);rw[any2_s h32]at hs;have hb:ev T mf0 lp279_0 (st0 c x)=some (.norm,st0 c (x+1)):=by
    simp only[go_sem,Nat.reduceEqDiff,Nat.reduceBNe,lp279_0,st0,h1,hw,h2,h3,hs,bC_len,Nat.mul_one,Nat.zero_add,Int.natCast_nonneg]
   rw[ev_loop,hb];exact ih (x+1) (by omega) (by omega)
 exact h 95 32 rfl (by omega)
theorem k279_b{s:ByteArray}{i i1:Int}{b:Bool}(h1:lim T 275 [rdr s i b,bt 40]=some ([ys false],[rdr s i b]))(h2:lim T 275 [rdr s i b,bt 46]=some ([ys true],[rdr s i1 b])) :
  lim T 279 [rdr s i b]=some ([.val true [.d (.int .i64 1),.d (.str (chT (any2 127))),.row ⟨[],3,false,true,true,false⟩]],[rdr s i1 b]):=by
 have hz:(List.replicate 256 (C.d (.bool false)))=bC (any2 32):=by
  have:any2 32=fun _=>false:=by funext y;simp[any2]
  rw[this,bC,List.map_const'];simp
 have hl:=l279_0_ok [.d (.str s),.d (.int .i64 i1),.d (.bool b)];simp only[st0,patZ,show ((32:Nat):Int)=32 from rfl]at hl;have hc:=q276 (any2 127);rw[lim_fn (f:=279) rfl rfl,hz];simp only[go_sem,Nat.reduceAdd,Nat.reduceEqDiff,Nat.reduceMul,Nat.reduceLeDiff,Nat.reduceBNe,bC_cell,bC_const,kills_b,bC_len,bC_drop,bC_take,rd_b,rows_b,h1,h2,hl,hc,Nat.reduceLeDiff]
theorem k279_d{s:ByteArray}{i i1 a:Int}{b b1:Bool}(h1:lim T 275 [rdr s i b,bt 40]=some ([ys false],[rdr s i b]))(h2:lim T 275 [rdr s i b,bt 46]=some ([ys false],[rdr s i b]))(h3:lim T 275 [rdr s i b,bt 91]=some ([ys false],[rdr s i b]))
  (h4:lim T 278 [rdr s i b]=some ([.val false [.d (.int .u8 a)]],[rdr s i1 b1])) :
  lim T 279 [rdr s i b]=some ([.val true [.d (.int .i64 1),.d (.str ⟨[UInt8.ofNat a.toNat].toArray⟩),.row ⟨[],3,false,true,true,false⟩]],[rdr s i1 (b1 ||(decide (a=95) ||decide (a=46)))]):=by
 have hz:(List.replicate 256 (C.d (.bool false)))=bC (any2 32):=by
  have:any2 32=fun _=>false:=by funext y;simp[any2]
  rw[this,bC,List.map_const'];simp
 rw[lim_fn (f:=279) rfl rfl,hz];by_cases c1:a=95
 ·have e1:(a=95)=True:=eq_true c1;simp only[go_sem,Nat.reduceAdd,Nat.reduceEqDiff,Nat.reduceLeDiff,Nat.reduceBNe,Nat.reduceLT,bC_cell,bC_const,kills_b,bC_len,bC_drop,h1,h2,h3,h4,e1,bytesOf,Nat.reduceLeDiff]
 ·have e1:(a=95)=False:=eq_false c1;by_cases c2:a=46
  ·have e2:(a=46)=True:=eq_true c2;simp only[go_sem,Nat.reduceAdd,Nat.reduceEqDiff,Nat.reduceLeDiff,Nat.reduceBNe,Nat.reduceLT,bC_cell,bC_const,kills_b,bC_len,bC_drop,h1,h2,h3,h4,e1,e2,bytesOf,Nat.reduceLeDiff]
  ·have e2:(a=46)=False:=eq_false c2;simp only[go_sem,Nat.reduceAdd,Nat.reduceEqDiff,Nat.reduceLeDiff,Nat.reduceBNe,Nat.reduceLT,bC_cell,bC_const,kills_b,bC_len,bC_drop,h1,h2,h3,h4,e1,e2,bytesOf,Nat.reduceLeDiff]
abbrev rC(s:ByteArray)(i:Int)(b:Bool):List C:=[.d (.str s),.d (.int .i64 i),.d (.bool b)]
def st1(c:List C)(n:Nat)(z x:Nat)(f:Nat→Bool):St:=⟨[(0,.ptr 900 0),(2,.ptr 2 0),(3,.ptr 3 0),(6,.d (.int .i64 (n:Int))),(8,.d (.int .u8 (z:Int))),(9,.d (.int .i64 (x:Int)))],[(2,patZ),(3,bC f),(900,c)],[]⟩
def rg(f:Nat→Bool)(x z:Nat):Nat→Bool:=fun y=>f y ||(decide (x≤y) && decide (y≤z))
theorem rg_no{f:Nat→Bool}{x z:Nat}(h:z < x):rg f x z=f:=by
 funext y
 unfold rg;by_cases h1:x≤y
 ·have:¬y≤z:=by omega
  simp[this]
 ·simp[h1]
theorem rg_s{f:Nat→Bool}{x z:Nat}(h:x≤z):rg (fun y=>f y ||decide (x=y)) (x+1) z=rg f x z:=by
 funext y
 unfold rg;by_cases h1:x=y
 ·subst h1;simp[h]
 ·by_cases h2:x≤y
  ·have:x+1≤y:=by omega
   simp[h1,h2,this]
  ·have:¬x+1≤y:=by omega
   simp[h1,h2,this]
theorem l279_1_ok(c:List C)(n z:Nat)(hz:z < 256):∀(m x:Nat) (f:Nat→Bool),x+m=z+1→∃x':Int,ev T mf0 (.loop lp279_1) (st1 c n z x f)=some (.exit 5,⟨[(0,.ptr 900 0),(2,.ptr 2 0),(3,.ptr 3 0),(6,.d (.int .i64 (n:Int))),(8,.d (.int .u8 (z:Int))),(9,.d (.int .i64 x')),(72,.d (.bool false))],[(2,patZ),(3,bC (rg f x z)),(900,c)],[]⟩)
 |0,x,f,hx=>by
  have h1:((x:Int)≤(z:Int))=False:=eq_false (by omega);have hw:IntKind.i64.wrap (z:Int)=(z:Int):=i64_wrap (by omega);refine⟨x,?_⟩;rw[rg_no (by omega),ev_loop];simp only[go_sem,Nat.reduceEqDiff,lp279_1,st1,h1,hw]
 |m+1,x,f,hx=>by
  have h1:((x:Int)≤(z:Int))=True:=eq_true (by omega);have hwz:IntKind.i64.wrap (z:Int)=(z:Int):=i64_wrap (by omega);have hw:IntKind.i64.wrap ((x:Int)+1)=((x+1:Nat):Int):=wi (n:=256) (by omega) (by decide);have h2:(x < 256)=True:=eq_true (by omega);have h3:(x+1≤256)=True:=eq_true (by omega);have hs:=bC_set f (x:=x) (by omega);obtain⟨x',ih⟩:=l279_1_ok c n z hz m (x+1) (fun y=>f y ||decide (x=y)) (by omega);rw[rg_s (by omega)]at ih;have hb:ev T mf0 lp279_1 (st1 c n z x f)=some (.norm,st1 c n z (x+1) (fun y=>f y ||decide (x=y))):=by
   simp only[go_sem,Nat.reduceEqDiff,Nat.reduceBNe,lp279_1,st1,h1,hw,hwz,h2,h3,hs,bC_len,Nat.mul_one,Nat.zero_add,Int.natCast_nonneg]
  refine⟨x',?_⟩;rw[ev_loop,hb];exact ih
theorem l279_1_any(c:List C)(n z x:Nat)(f:Nat→Bool)(hz:z < 256)(hx:x < 256):∃x':Int,ev T mf0 (.loop lp279_1) (st1 c n z x f)=some (.exit 5,⟨[(0,.ptr 900 0),(2,.ptr 2 0),(3,.ptr 3 0),(6,.d (.int .i64 (n:Int))),(8,.d (.int .u8 (z:Int))),(9,.d (.int .i64 x')),(72,.d (.bool false))],[(2,patZ),(3,bC (rg f x z)),(900,c)],[]⟩):=by
 by_cases h:x≤z+1
 ·exact l279_1_ok c n z hz (z+1 - x) x f (by omega)
 ·have h1:((x:Int)≤(z:Int))=False:=eq_false (by omega);have hw:IntKind.i64.wrap (z:Int)=(z:Int):=i64_wrap (by omega);refine⟨x,?_⟩;rw[rg_no (by omega),ev_loop];simp only[go_sem,Nat.reduceEqDiff,lp279_1,st1,h1,hw]
def st2(s:ByteArray)(i:Int)(b:Bool)(n:Nat)(f:Nat→Bool):St:=⟨[(0,.ptr 900 0),(2,.ptr 2 0),(3,.ptr 3 0),(6,.d (.int .i64 (n:Int)))],[(2,patZ),(3,bC f),(900,rC s i b)],[]⟩
theorem it279{s:ByteArray}{i i1 i2 i3:Int}{b1 b3 t:Bool}{n a z0:Nat}{f:Nat→Bool}(hn:n≤mgK)(ha:a < 256)(hz:z0 < 256)(h0:n=0∨lim T 275 [rdr s i false,bt 93]=some ([ys false],[rdr s i false]))
  (h1:lim T 278 [rdr s i false]=some ([.val false [.d (.int .u8 (a:Int))]],[rdr s i1 b1]))
  (h2:lim T 275 [rdr s i1 b1,bt 126]=some ([ys t],[rdr s i2 b1]))
  (h3:t=true→lim T 278 [rdr s i2 b1]=some ([.val false [.d (.int .u8 (z0:Int))]],[rdr s i3 b3])) :
  ev T mf0 lp279_2 (st2 s i false n f)=some (.norm,st2 s (if t then i3 else i2) ((if t then b3 else b1) ||(t && decide (z0 < a))) (n+1) (rg f a (if t then z0 else a))):=by
 have hw:IntKind.i64.wrap ((n:Int)+1)=((n+1:Nat):Int):=wi (n:=mgK+1) (by omega) (by decide);have hwa:IntKind.i64.wrap (a:Int)=(a:Int):=i64_wrap (by omega);have hcond:∀(P:Prop),(n=0→P)→(¬n=0→lim T 275 [rdr s i false,bt 93]=some ([ys false],[rdr s i false])→P)→P:=fun P p1 p2=>by
  by_cases h:n=0
  ·exact p1 h
  ·rcases h0 with h0|h0
   ·exact absurd h0 h
   ·exact p2 h h0
 cases t with
 |false=>
  obtain⟨x',hl⟩:=l279_1_any (rC s i2 b1) n a a f ha ha;have hlt:((a:Int) < (a:Int))=False:=eq_false (by omega);simp only[st1]at hl;refine hcond _ (fun hn0=>?_) (fun hn0 h93=>?_)
  ·subst hn0;simp only[show ((0:Nat):Int)=0 from rfl,Nat.zero_add,Int.zero_add]at hl hw ⊢;simp only[go_sem,Nat.reduceAdd,Nat.reduceEqDiff,Nat.reduceLeDiff,Nat.reduceBNe,lp279_2,st2,mz,h1,h2,hlt,hwa,hl,hw,Int.zero_add]
  ·have hn1:((n:Int)=0)=False:=eq_false (by omega);simp only[go_sem,Nat.reduceAdd,Nat.reduceEqDiff,Nat.reduceLeDiff,Nat.reduceBNe,lp279_2,st2,h1,h2,h93,hn1,hlt,hwa,hl,hw]
 |true=>
  have h3':=h3 rfl;have fin:∀(b4:Bool),b4=(b3 ||decide (z0 < a))→∃x':Int,ev T mf0 (.loop lp279_1) (st1 (rC s i3 b4) n z0 a f)=some (.exit 5,⟨[(0,.ptr 900 0),(2,.ptr 2 0),(3,.ptr 3 0),(6,.d (.int .i64 (n:Int))),(8,.d (.int .u8 (z0:Int))),(9,.d (.int .i64 x')),(72,.d (.bool false))],[(2,patZ),(3,bC (rg f a z0)),(900,rC s i3 b4)],[]⟩):=fun b4 _=>l279_1_any _ n z0 a f hz ha;by_cases hlt:z0 < a
  ·obtain⟨x',hl⟩:=fin true (by simp[hlt]);have hlt':((z0:Int) < (a:Int))=True:=eq_true (by omega);simp only[st1]at hl;simp only[hlt,decide_true,Bool.and_self,Bool.or_true,if_true];refine hcond _ (fun hn0=>?_) (fun hn0 h93=>?_)
   ·subst hn0;simp only[show ((0:Nat):Int)=0 from rfl,Nat.zero_add,Int.zero_add]at hl hw ⊢;simp only[go_sem,Nat.reduceAdd,Nat.reduceEqDiff,Nat.reduceLeDiff,Nat.reduceBNe,lp279_2,st2,mz,h1,h2,h3',hlt',hwa,hl,hw,Int.zero_add]
   ·have hn1:((n:Int)=0)=False:=eq_false (by omega);simp only[go_sem,Nat.reduceAdd,Nat.reduceEqDiff,Nat.reduceLeDiff,Nat.reduceBNe,lp279_2,st2,h1,h2,h3',h93,hn1,hlt',hwa,hl,hw]
  ·obtain⟨x',hl⟩:=fin b3 (by simp[hlt]);have hlt':((z0:Int) < (a:Int))=False:=eq_false (by omega);simp only[st1]at hl;simp only[hlt,decide_false,Bool.and_false,Bool.or_false,if_true];refine hcond _ (fun hn0=>?_) (fun hn0 h93=>?_)
   ·subst hn0;simp only[show ((0:Nat):Int)=0 from rfl,Nat.zero_add,Int.zero_add]at hl hw ⊢;simp only[go_sem,Nat.reduceAdd,Nat.reduceEqDiff,Nat.reduceLeDiff,Nat.reduceBNe,lp279_2,st2,mz,h1,h2,h3',hlt',hwa,hl,hw,Int.zero_add]
   ·have hn1:((n:Int)=0)=False:=eq_false (by omega);simp only[go_sem,Nat.reduceAdd,Nat.reduceEqDiff,Nat.reduceLeDiff,Nat.reduceBNe,lp279_2,st2,h1,h2,h3',h93,hn1,hlt',hwa,hl,hw]
theorem it279_bad{s:ByteArray}{i:Int}{n:Nat}{f:Nat→Bool}:ev T mf0 (.loop lp279_2) (st2 s i true n f)=some (.exit 3,⟨[(0,.ptr 900 0),(2,.ptr 2 0),(3,.ptr 3 0),(6,.d (.int .i64 (n:Int))),(51,.d (.bool false))],[(2,patZ),(3,bC f),(900,rC s i true)],[]⟩):=by
 rw[ev_loop];simp only[go_sem,Nat.reduceAdd,Nat.reduceEqDiff,Nat.reduceLeDiff,lp279_2,st2]
theorem it279_end{s:ByteArray}{i i1:Int}{n:Nat}{f:Nat→Bool}(h0:n≠0)(h1:lim T 275 [rdr s i false,bt 93]=some ([ys true],[rdr s i1 false])) :
  ev T mf0 (.loop lp279_2) (st2 s i false n f)=some (.exit 3,⟨[(0,.ptr 900 0),(2,.ptr 2 0),(3,.ptr 3 0),(6,.d (.int .i64 (n:Int))),(51,.d (.bool false))],[(2,patZ),(3,bC f),(900,rC s i1 false)],[]⟩):=by
 have hn1:((n:Int)=0)=False:=eq_false (by omega);rw[ev_loop];simp only[go_sem,Nat.reduceAdd,Nat.reduceEqDiff,Nat.reduceLeDiff,Nat.reduceBNe,lp279_2,st2,h1,hn1]
theorem k279_c{s:ByteArray}{i i1 k:Int}{b b1:Bool}{n:Int}{f:Nat→Bool}(h1:lim T 275 [rdr s i b,bt 40]=some ([ys false],[rdr s i b]))(h2:lim T 275 [rdr s i b,bt 46]=some ([ys false],[rdr s i b]))(h3:lim T 275 [rdr s i b,bt 91]=some ([ys true],[rdr s i1 b]))
  (hl:ev T mf0 (.loop lp279_2) (st2 s i1 b 0 fun _=>false)=some (.exit 3,⟨[(0,.ptr 900 0),(2,.ptr 2 0),(3,.ptr 3 0),(6,.d (.int .i64 n)),(51,.d (.bool false))],[(2,patZ),(3,bC f),(900,rC s k b1)],[]⟩)) :
  lim T 279 [rdr s i b]=some ([.val true [.d (.int .i64 1),.d (.str (chT f)),.row ⟨[],3,false,true,true,false⟩]],[rdr s k b1]):=by
 have hz:(List.replicate 256 (C.d (.bool false)))=bC fun _=>false:=by rw[bC,List.map_const'];simp
 have hc:=q276 f;simp only[st2,mz]at hl;rw[lim_fn (f:=279) rfl rfl,hz];simp only[go_sem,Nat.reduceAdd,Nat.reduceEqDiff,Nat.reduceMul,Nat.reduceLeDiff,Nat.reduceBNe,bC_cell,bC_const,kills_b,bC_len,bC_drop,bC_take,rd_b,rows_b,h1,h2,h3,hl,hc,Nat.reduceLeDiff]
end
section
set_option maxRecDepth 100000
set_option maxHeartbeats 4000000
theorem q275_t{s:ByteArray}{i:Nat}{c:Int}{b:Bool}(hs:s.size≤mg)(h:isAt s i c=true):G 275 [.str s,.int .i64 (i:Int),.bool b,.int .u8 c]=some (0,[.bool true,.str s,.int .i64 ((i+1:Nat):Int),.bool b]):=by
 obtain⟨hi,hb⟩:=isAt_iff.1 h;have hw:=wj hi hs;refine gOf s275 rfl ?_;simp only[go_sem,t275,hi,hb,po_six _ _ hi,hw]
theorem q275_f{s:ByteArray}{i:Nat}{c:Int}{b:Bool}(h:isAt s i c=false):G 275 [.str s,.int .i64 (i:Int),.bool b,.int .u8 c]=some (0,[.bool false,.str s,.int .i64 (i:Int),.bool b]):=by
 refine gOf s275 rfl ?_;by_cases hi:i < s.size
 ·have hb:=isAt_no h hi;simp only[go_sem,t275,hi,hb,po_six _ _ hi]
 ·simp only[go_sem,t275,hi]
theorem q277(b:Int):G 277 [.int .u8 b]=some (0,[.bool (chB b)]):=by
 refine gOf s277 rfl ?_;unfold chB;cases hx:inB 97 122 b<;>cases hy:inB 48 57 b<;>simp only[go_sem,t277,q258,q259,hx,hy]
 by_cases h1:b=95
 ·simp only[go_sem,h1]
 ·by_cases h2:b=45
  ·simp only[go_sem,h2]
  ·by_cases h3:b=46
   ·simp only[go_sem,h3]
   ·simp only[go_sem,h1,h2,h3]
def okC1(s:ByteArray)(i:Nat):Bool:=decide (i < s.size) && chB (bAt s i)
theorem q278_t{s:ByteArray}{i:Nat}{b:Bool}(hs:s.size≤mg)(h:okC1 s i=true):G 278 [.str s,.int .i64 (i:Int),.bool b]=some (0,[.int .u8 (bAt s i),.str s,.int .i64 ((i+1:Nat):Int),.bool b]):=by
 simp only[okC1,Bool.and_eq_true,decide_eq_true_eq]at h;obtain⟨hi,hc⟩:=h;have hw:=wj hi hs;have h1:=q277 (bAt s i);have h2:=po_six s i hi;have h3:=sub1 i (by omega);have hge:¬s.size≤i:=by omega
 rw[hc]at h1;refine gOf s278 rfl ?_;simp only[go_sem,t278,le_nn,hge,h1,h2,h3,hw]
theorem q278_f{s:ByteArray}{i:Nat}{b:Bool}(h:okC1 s i=false):G 278 [.str s,.int .i64 (i:Int),.bool b]=some (0,[.int .u8 0,.str s,.int .i64 (i:Int),.bool true]):=by
 refine gOf s278 rfl ?_;by_cases hi:i < s.size
 ·simp only[okC1,hi,decide_true,Bool.true_and]at h;have h1:=q277 (bAt s i);have h2:=po_six s i hi;have hge:¬s.size≤i:=by omega
  rw[h]at h1;simp only[go_sem,t278,le_nn,hge,h1,h2]
 ·have hge:s.size≤i:=by omega
  simp only[go_sem,t278,le_nn,hge]
theorem q281_n(n:Nat):∀p:XPat,SizeOf.sizeOf p < n→pOk 64 p=true→G 281 (ePat p)=some (0,ePat p):=by
 induction n with
 |zero=>intro p h;omega
 |succ n ih=>
  intro p hz hp;have hlen:=pOk_len hp;have hk:∀k∈p.kids,G 281 (ePat k)=some (0,ePat k):=fun k hk=>ih k (by have:=XPat.kid hk;omega) (pOk_kid hp hk);refine gOf s281 (by rw[ePat_eq];rfl) ?_;have hl:=gl_gather (b:=lB G l281_0) p.kids (fun i (a:List XPat)=>(0,[dPats p.kids,.int .i64 p.kids.length,.int .i64 (i:Int),.int .i64 p.op,.str p.text,dPats p.kids,.int .i64 0,.str ⟨#[]⟩,dPats a])) (fun i=>p.kids.take i) (0,[dPats p.kids,.int .i64 p.kids.length,.int .i64 p.kids.length,.bool false,.int .i64 p.op,.str p.text,dPats p.kids,.int .i64 0,.str ⟨#[]⟩,dPats p.kids]) (by
   intro i k hn;have hi:=nth_len hn;have hw:=wj (i:=i) (n:=p.kids.length) hi (by simp only[mg];omega);have e1:=hk k (nth_in hn);have e2:=el_P hn;have e3:=fun (op:Int) (t:ByteArray) (ks:List XPat)=>appP (l:=p.kids.take i) (by rw[List.length_take];simp only[mg];omega) op t ks;rw[ePat_eq]at e1;rw[take_succ_nth _ _ _ hn];simp only[go_sem,lB_,l281_0,hi,e2,po_hasP];simp only[go_sem,ePat_eq k,e1,pl2,mkP,e3,xpat_eta,hw]) (by
   rw[List.take_length];simp only[go_sem,lB_,l281_0,Nat.lt_irrefl]) p.kids.length 0 (by omega)
  have m0:evPO (.mkl 3 false) []=some (dPats []):=po_mkl0 3 false;rw[n0,List.take_zero]at hl;simp only[go_sem,t281,ePat_eq p,m0,hl]
theorem q281{p:XPat}(hp:pOk 64 p=true):G 281 (ePat p)=some (0,ePat p):=q281_n _ p (Nat.lt_succ_self _) hp
theorem m275{s:ByteArray}{i i':Nat}{c:Int}{b t:Bool}(h:G 275 [.str s,.int .i64 (i:Int),.bool b,.int .u8 c]=some (0,[.bool t,.str s,.int .i64 (i':Int),.bool b])):lim T 275 [rdr s i b,bt c]=some ([ys t],[rdr s i' b]):=by
 obtain⟨a,r,v,h1,h2,h3,h4⟩:=GF_ok T Sgn 275 _ rfl _ _ _ h;cases h1;cases h2;cases h3
 exact h4
theorem m278{s:ByteArray}{i i':Nat}{a:Int}{b b':Bool}(h:G 278 [.str s,.int .i64 (i:Int),.bool b]=some (0,[.int .u8 a,.str s,.int .i64 (i':Int),.bool b'])):lim T 278 [rdr s i b]=some ([.val false [.d (.int .u8 a)]],[rdr s i' b']):=by
 obtain⟨a',r,v,h1,h2,h3,h4⟩:=GF_ok T Sgn 278 _ rfl _ _ _ h;cases h1;cases h2;cases h3
 exact h4
theorem m280_0{s:ByteArray}{i k:Nat}{p:XPat}{b b':Bool}(h:G 280 [.str s,.int .i64 (i:Int),.bool b]=some (0,ePat p++[.str s,.int .i64 (k:Int),.bool b'])) :
  lim T 280 [rdr s i b]=some ([.val true [.d (.int .i64 p.op),.d (.str p.text),.d (.list 3 false (p.kids.map ePat))]],[rdr s k b']):=by
 rw[ePat_eq]at h;obtain⟨a',r,v,h1,h2,h3,h4⟩:=GF_ok T Sgn 280 _ rfl _ _ _ h;cases h1;cases h2;cases h3
 exact h4
theorem m280_1{s:ByteArray}{i k:Nat}{p:XPat}{b b':Bool}(h:G 280 [.str s,.int .i64 (i:Int),.bool b]=some (1,ePat p++[.str s,.int .i64 (k:Int),.bool b'])) :
  lim T 280 [rdr s i b]=some ([.val true [.d (.int .i64 p.op),.d (.str p.text),.row ⟨p.kids.map ePat,3,false,false,true,true⟩]],[rdr s k b']):=by
 rw[ePat_eq]at h;obtain⟨a',r,v,h1,h2,h3,h4⟩:=GF_ok T Sgn 280 _ rfl _ _ _ h;cases h1;cases h2;cases h3
 exact h4
theorem g279_0{s:ByteArray}{i k:Nat}{p:XPat}{b b':Bool}(h:lim T 279 [rdr s i b]=some ([.val true [.d (.int .i64 p.op),.d (.str p.text),.d (.list 3 false (p.kids.map ePat))]],[rdr s k b'])) :
  G 279 [.str s,.int .i64 (i:Int),.bool b]=some (0,ePat p++[.str s,.int .i64 (k:Int),.bool b']):=by
 rw[ePat_eq];exact GF_lim (i:=279) (sg:=⟨279,[.box [.d,.d,.d]],_⟩) (v:=([.val true [.d,.d,.d]],[.box [.d,.d,.d]])) rfl rfl h rfl rfl
theorem g279_1{s:ByteArray}{i k:Nat}{p:XPat}{b b':Bool}(h:lim T 279 [rdr s i b]=some ([.val true [.d (.int .i64 p.op),.d (.str p.text),.row ⟨p.kids.map ePat,3,false,false,true,true⟩]],[rdr s k b'])) :
  G 279 [.str s,.int .i64 (i:Int),.bool b]=some (1,ePat p++[.str s,.int .i64 (k:Int),.bool b']):=by
 rw[ePat_eq];exact GF_lim (i:=279) (sg:=⟨279,[.box [.d,.d,.d]],_⟩) (v:=([.val true [.d,.d,.row 3 false false true true]],[.box [.d,.d,.d]])) rfl rfl h rfl rfl
theorem g279_2{s:ByteArray}{i k:Nat}{t:ByteArray}{op:Int}{b b':Bool}(h:lim T 279 [rdr s i b]=some ([.val true [.d (.int .i64 op),.d (.str t),.row ⟨[],3,false,true,true,false⟩]],[rdr s k b'])) :
  G 279 [.str s,.int .i64 (i:Int),.bool b]=some (2,ePat ⟨op,t,[]⟩++[.str s,.int .i64 (k:Int),.bool b']):=by
 rw[ePat_eq];exact GF_lim (i:=279) (sg:=⟨279,[.box [.d,.d,.d]],_⟩) (v:=([.val true [.d,.d,.row 3 false true true false]],[.box [.d,.d,.d]])) rfl rfl h rfl rfl
theorem chT_bs(f:Nat→Bool):chT f=bsT f:=(rfl)
theorem any_eq:chT (any2 127)=anyT:=by
 rw[chT_bs,anyT]
 congr 1
 funext x
 simp only[any2]
 congr 1
 apply decide_eq_decide.2
 omega
theorem in_rg(f:Nat→Bool)(a z:Nat)(l:List (Int×Int)):(fun y:Nat=>rg f a z y ||inRs l y)=fun y=>f y ||inRs (((a:Int),(z:Int))::l) y:=in_two f a z l
def eC(s:ByteArray)(k:Nat)(b:Bool)(n:Int)(f:Nat→Bool):Option (Ex×St):=some (.exit 3,⟨[(0,.ptr 900 0),(2,.ptr 2 0),(3,.ptr 3 0),(6,.d (.int .i64 n)),(51,.d (.bool false))],[(2,patZ),(3,bC f),(900,rC s k b)],[]⟩)
theorem l279_2_ok{s:ByteArray}(hs:s.size≤30):∀(g i n:Nat) (f:Nat→Bool),i≤s.size→s.size+1 - i≤g→n≤i→(n=0→isAt s i 93=false)→
  ∃(k:Nat) (b:Bool) (f':Nat→Bool) (n':Int),ev T mf0 (.loop lp279_2) (st2 s i false n f)=eC s k b n' f'∧i≤k∧k≤s.size∧(match pMems s g i with
   |some q=>b=false∧k=q.2∧f'=fun y=>f y ||inRs q.1 y
   |none=>b=true):=by
 have hm:s.size≤mg:=by simp only[mg];omega
 intro g
 induction g with
 |zero=>intro i n f h1 h2;omega
 |succ g ih=>
  intro i n f hi hg hn h0;cases h93:isAt s i 93 with
  |true=>
   have hlt:=isAt_lt h93;have e:=it279_end (f:=f) (n:=n) (fun h=>by rw[h0 h]at h93;cases h93) (m275 (q275_t (b:=false) hm h93));refine⟨i+1,false,f,n,e,by omega,by omega,?_⟩;have:pMems s (g+1) i=some ([],i+1):=by simp only[pMems,h93,if_true]
   rw[this];exact⟨rfl,rfl,by funext y;simp[inRs]⟩
  |false=>
   have c0:n=0∨lim T 275 [rdr s i false,bt 93]=some ([ys false],[rdr s i false]):=.inr (m275 (q275_f h93));have hnK:n≤mgK:=by simp only[mgK];omega
   have bad:∀(k a z:Nat),i≤k→k≤s.size→pMem s i=none→ev T mf0 lp279_2 (st2 s i false n f)=some (.norm,st2 s k true (n+1) (rg f a z))→
     ∃(k:Nat) (b:Bool) (f':Nat→Bool) (n':Int),ev T mf0 (.loop lp279_2) (st2 s i false n f)=eC s k b n' f'∧i≤k∧k≤s.size∧(match pMems s (g+1) i with
      |some q=>b=false∧k=q.2∧f'=fun y=>f y ||inRs q.1 y
      |none=>b=true):=by
    intro k a z k1 k2 hp he;have hx:=it279_bad (s:=s) (i:=(k:Int)) (n:=n+1) (f:=rg f a z);refine⟨k,true,rg f a z,((n+1:Nat):Int),?_,k1,k2,?_⟩
    ·rw[ev_loop,he];exact hx
    ·have:pMems s (g+1) i=none:=by simp only[pMems,h93,Bool.false_eq_true,if_false,hp]
     rw[this]
   have good:∀(k a z:Nat) (rs:Int×Int),i < k→k≤s.size→pMem s i=some (rs,k)→rs=((a:Int),(z:Int))→ev T mf0 lp279_2 (st2 s i false n f)=some (.norm,st2 s k false (n+1) (rg f a z))→
     ∃(k:Nat) (b:Bool) (f':Nat→Bool) (n':Int),ev T mf0 (.loop lp279_2) (st2 s i false n f)=eC s k b n' f'∧i≤k∧k≤s.size∧(match pMems s (g+1) i with
      |some q=>b=false∧k=q.2∧f'=fun y=>f y ||inRs q.1 y
      |none=>b=true):=by
    intro k a z rs k1 k2 hp hrs he;obtain⟨k',b',f',n',e1,e2,e3,e4⟩:=ih k (n+1) (rg f a z) k2 (by omega) (by omega) (fun h=>by omega);refine⟨k',b',f',n',?_,by omega,e3,?_⟩
    ·rw[ev_loop,he];exact e1
    ·have:pMems s (g+1) i=(pMems s g k).map fun p=>(rs::p.1,p.2):=by simp only[pMems,h93,Bool.false_eq_true,if_false,hp]
     rw[this];cases hr:pMems s g k with
     |none=>rw[hr]at e4;exact e4
     |some q=>
      rw[hr]at e4;obtain⟨h5,h6,h7⟩:=e4;refine⟨h5,h6,?_⟩;rw[h7,hrs];exact in_rg f a z q.1
   cases hc:okC1 s i with
   |false=>
    have hp:pMem s i=none:=by
     have hc':(decide (i < s.size) && chB (bAt s i))=false:=hc;simp only[pMem,hc',Bool.false_eq_true,if_false]
    have f1:=m278 (q278_f (b:=false) hc);cases ht:isAt s i 126 with
    |false=>
     have he:=it279 (a:=0) (z0:=0) (f:=f) (i3:=0) (b3:=false) hnK (by decide) (by decide) c0 f1 (m275 (q275_f (b:=true) ht)) (fun h=>by cases h);exact bad i 0 0 (Nat.le_refl _) hi hp (by simpa using he)
    |true=>
     have hlt:=isAt_lt ht;cases hc2:okC1 s (i+1) with
     |false=>
      have he:=it279 (a:=0) (z0:=0) (f:=f) hnK (by decide) (by decide) c0 f1 (m275 (q275_t (b:=true) hm ht)) (fun _=>m278 (q278_f (b:=true) hc2));exact bad (i+1) 0 0 (by omega) (by omega) hp (by simpa using he)
     |true=>
      obtain⟨z,hz,hbz⟩:=bAt_nat s (i+1);have f3:=m278 (q278_t (b:=true) hm hc2);rw[hbz]at f3;have hlt2:i+1 < s.size:=by simp only[okC1,Bool.and_eq_true,decide_eq_true_eq]at hc2;exact hc2.1
      have he:=it279 (a:=0) (z0:=z) (f:=f) hnK (by decide) hz c0 f1 (m275 (q275_t (b:=true) hm ht)) (fun _=>f3);exact bad (i+1+1) 0 z (by omega) (by omega) hp (by simpa using he)
   |true=>
    obtain⟨a,ha,hba⟩:=bAt_nat s i;have f1:=m278 (q278_t (b:=false) hm hc);rw[hba]at f1;have hc':(decide (i < s.size) && chB (bAt s i))=true:=hc;have hlt:i < s.size:=by simp only[Bool.and_eq_true,decide_eq_true_eq]at hc';exact hc'.1
    cases ht:isAt s (i+1) 126 with
    |false=>
     have he:=it279 (a:=a) (z0:=0) (f:=f) (i3:=0) (b3:=false) hnK ha (by decide) c0 f1 (m275 (q275_f (b:=false) ht)) (fun h=>by cases h);exact good (i+1) a a (bAt s i,bAt s i) (by omega) (by omega) (by simp only[pMem,hc',ht,if_true,Bool.false_eq_true,if_false]) (by rw[hba]) (by simpa using he)
    |true=>
     have hlt2:=isAt_lt ht;cases hc2:okC1 s (i+1+1) with
     |false=>
      have hp:pMem s i=none:=by
       have hc2':(decide (i+2 < s.size) && chB (bAt s (i+2)))=false:=hc2;simp only[pMem,hc',ht,if_true,← Bool.and_assoc,hc2',Bool.false_and,Bool.false_eq_true,if_false]
      have he:=it279 (a:=a) (z0:=0) (f:=f) hnK ha (by decide) c0 f1 (m275 (q275_t (b:=false) hm ht)) (fun _=>m278 (q278_f (b:=false) hc2));exact bad (i+1+1) a 0 (by omega) (by omega) hp (by simpa using he)
     |true=>
      obtain⟨z,hz,hbz⟩:=bAt_nat s (i+1+1);have f3:=m278 (q278_t (b:=false) hm hc2);rw[hbz]at f3;have hc2':(decide (i+2 < s.size) && chB (bAt s (i+2)))=true:=hc2;have hlt3:i+1+1 < s.size:=by simp only[Bool.and_eq_true,decide_eq_true_eq]at hc2';exact hc2'.1
      have he:=it279 (a:=a) (z0:=z) (f:=f) hnK ha hz c0 f1 (m275 (q275_t (b:=false) hm ht)) (fun _=>f3);by_cases hza:z < a
      ·have hle:¬bAt s i≤bAt s (i+2):=by rw[hba,hbz];omega
       have hp:pMem s i=none:=by simp only[pMem,hc',ht,if_true,← Bool.and_assoc,hc2',Bool.true_and,hle,decide_false,Bool.false_eq_true,if_false]
       exact bad (i+1+1+1) a z (by omega) (by omega) hp (by simpa [hza] using he)
      ·have hle:bAt s i≤bAt s (i+2):=by rw[hba,hbz];omega
       exact good (i+1+1+1) a z (bAt s i,bAt s (i+2)) (by omega) (by omega) (by simp only[pMem,hc',ht,if_true,← Bool.and_assoc,hc2',Bool.true_and,hle,decide_true]) (by rw[hba,hbz]) (by simpa [hza] using he)
end
section
set_option maxRecDepth 100000
set_option maxHeartbeats 4000000
def ixB(t:ByteArray)(c:Int):Int:=Lib.indexByte t.data.toList c.toNat.toUInt8
theorem q9002(t:ByteArray)(c:Int):G 9002 [.str t,.int .u8 c]=some (0,[.int .i64 (ixB t c)]):=
 GF_lim (i:=9002) (sg:=⟨9002,[.val false [.d],.val false [.d]],[([.val false [.d]],[])]⟩) (v:=([.val false [.d]],[])) (j:=0) (r:=([.val false [.d (.int .i64 (ixB t c))]],[])) (ws:=[.str t,.int .u8 c]) rfl rfl ((lim_x T rfl [.val false [.d (.str t)],.val false [.d (.int .u8 c)]]).trans rfl) rfl rfl
theorem ixb_ge:∀(l:List UInt8) (c:UInt8),-1≤Lib.indexByte l c
 |[],c=>by simp[Lib.indexByte]
 |b::l,c=>by
  have ih:=ixb_ge l c;simp only[Lib.indexByte];split
  ·omega
  ·split<;>omega
theorem ix_nn:∀(l:List UInt8) (c:UInt8),decide (0≤Lib.indexByte l c)=l.any fun x=>x ==c
 |[],c=>by simp[Lib.indexByte]
 |b::l,c=>by
  have ih:=ix_nn l c;have key:Lib.indexByte (b::l) c=if (b ==c)=true then 0 else if (Lib.indexByte l c == -1)=true then -1 else Lib.indexByte l c+1:=rfl
  rw[List.any_cons,← ih];have h2:=ixb_ge l c;by_cases h:(b ==c)=true
  ·rw[h,Bool.true_or,decide_eq_true_eq,key,if_pos h];exact Int.le_refl 0
  ·rw[Bool.eq_false_iff.2 h,Bool.false_or]
   apply decide_eq_decide.2
   rw[key,if_neg h];split
   ·rename_i h1;rw[beq_iff_eq]at h1;omega
   ·rename_i h1;have h3:¬Lib.indexByte l c=-1:=by simpa using h1
    omega
theorem ixB_has(t:ByteArray){s:ByteArray}{i:Nat}:decide (0≤ixB t (bAt s i))=hasB t (bAt s i):=by
 rw[ixB,ix_nn,Bool.eq_iff_iff,List.any_eq_true,hasB,List.any_eq_true];have e0:∀k,bAt t k=(((t.data.toList)[k]?.getD 0).toNat:Int):=fun k=>by
  unfold bAt
  congr 2
  simp only[Array.getElem?_toList];rfl
 have hb:(bAt s i).toNat.toUInt8=s[i]?.getD 0:=by unfold bAt;simp
 have hb2:bAt s i=((s[i]?.getD 0).toNat:Int):=rfl;rw[hb]
 constructor
 ·rintro⟨x,hx,hxc⟩
  obtain⟨k,hk,hkx⟩:=List.getElem_of_mem hx;refine⟨k,?_,?_⟩
  ·rw[List.mem_range];simpa using hk
  ·rw[decide_eq_true_eq,e0,hb2,List.getElem?_eq_getElem hk,hkx];rw[beq_iff_eq]at hxc;rw[hxc];rfl
 ·rintro⟨k,hk,hkc⟩
  rw[List.mem_range]at hk;have hk':k < t.data.toList.length:=by simpa using hk
  rw[decide_eq_true_eq,e0,hb2,List.getElem?_eq_getElem hk']at hkc;refine⟨_,List.getElem_mem hk',?_⟩;rw[beq_iff_eq];simp only[Option.getD_some]at hkc;exact UInt8.toNat_inj.1 (by omega)
theorem bools_map:∀(l:List Bool),bools (l.map eBool)=some l
 |[]=>rfl
 |b::l=>by
  have:=bools_map l;simp only[List.map_cons,eBool,bools,this,Option.map_some]
theorem bo_jnl{a b:List Bool}(h:b.length=a.length)(h0:0 < b.length):evPO .jnl [dBools a,dBools b]=some (dBools (joinB a b)):=by
 simp only[evPO,bools_map,List.length_map,h];rw[if_pos ⟨trivial,trivial,trivial,trivial,fun h'=>by rw[List.map_eq_nil_iff]at h';rw[h']at h0;exact absurd h0 (by simp)⟩];rfl
theorem bo_jnb(a b:List Bool):evPO .jnb [dBools a,dBools b]=some (.bool (grewB a b)):=by
 simp only[evPO,bools_map]
theorem l308_0_ok{s t:ByteArray}{a:List Bool}{op ks:D}(hs:s.size≤mg)(ha:a.length=s.size+1) :
  gloop (lB G l308_0) (0,[.str s,dBools a,.int .i64 0,op,.str t,ks,dBools (List.replicate (s.size+1) false)])=some (0,[.str s,dBools a,.int .i64 s.size,.bool false,op,.str t,ks,dBools (chE t s a)]):=by
 have hJ:=chE_len t s a;have hl:=gl_up (b:=lB G l308_0) (fun i=>(0,[.str s,dBools a,.int .i64 (i:Int),op,.str t,ks,dBools (fillB (chE t s a) (i+1))])) s.size (fin:=(0,[.str s,dBools a,.int .i64 s.size,.bool false,op,.str t,ks,dBools (fillB (chE t s a) (s.size+1))])) (by
  intro i hi;have hw:IntKind.i64.wrap ((i:Int)+1)=((i+1:Nat):Int):=lenw (by omega);have h1:nth a i=some (a[i]'(by omega)):=nth_lt (by omega);have h3:=nth_chE (t:=t) hi h1;have e1:=bo_el h1;have hl2:i+1 < (fillB (chE t s a) (i+1)).length:=by rw[fill_len _ _ (by omega)];omega
  have e2:=bo_chk hl2;have e3:=fun c=>bo_set (c:=c) hl2;have e4:=fill_succ h3;have e5:=po_six s i hi;have e6:=q9002 t (bAt s i);have e7:=ixB_has t (s:=s) (i:=i);generalize (a[i]'(by omega))=x at *;cases x with
  |false=>
   rw[Bool.false_and]at e4;simp only[go_sem,lB_,l308_0,hi,hw,e1,e2,e3,e4]
  |true=>
   rw[Bool.true_and]at e4;simp only[go_sem,lB_,l308_0,hi,hw,e1,e2,e3,e4,e5,e6,e7]) (by
  simp only[go_sem,lB_,l308_0,Nat.lt_irrefl])
 have h0:fillB (chE t s a) (0+1)=List.replicate (s.size+1) false:=by
  rw[fillB,hJ];simp[chE,List.replicate_succ]
 rw[h0,n0]at hl;rw[hl]
 congr 9
 rw[← hJ,fill_n]
theorem l308_e4:l308_4=l308_3:=(rfl)
section
variable {s:ByteArray} {k:XPat} {f:List Bool→List Bool} (hf:∀x:List Bool,x.length=s.size+1→(f x).length=s.size+1)
 (ih:∀x:List Bool,x.length=s.size+1→G 308 (ePat k++[.str s,dBools x])=some (0,[dBools (f x)]))
include hf ih
theorem l308_4_ok{t:ByteArray}:∀(m:Nat) (x:List Bool) (h:Nat) (z:D),h < 2→outs x < m→x.length=s.size+1→
  gloop (lB G l308_3) (h,[.str s,z,.int .i64 4,.str t,dPats [k],dBools x])=some (0,[.str s,.bool false,.int .i64 4,.str t,dPats [k],dBools (starN f m x)]):=by
 intro m
 induction m with
 |zero=>intro x h z h0 h1;omega
 |succ m im=>
  intro x h z h0 h1 hx;have e1:=ih x hx;rw[ePat_eq]at e1;simp only[List.cons_append,List.nil_append]at e1;have hfx:=hf x hx;have e2:=bo_jnl (a:=x) (b:=f x) (by rw[hfx,hx]) (by omega);have e3:=bo_jnb x (f x);have hj:=joinB_len x (f x);have e4:=grewB_iff x (f x);simp only[starN];by_cases hc:joinB x (f x)=x
  ·rw[if_pos hc];rw[decide_eq_true hc,Bool.not_true]at e4;rw[e4]at e3;rw[hc]at e2;refine gloop_out ?_
   match h,h0 with
   |0,_=>simp only[go_sem,lB_,l308_3,el_P0,ePat_eq k,e1,e2,e3]
   |1,_=>simp only[go_sem,lB_,l308_3,el_P0,ePat_eq k,e1,e2,e3]
  ·rw[if_neg hc];rw[decide_eq_false hc,Bool.not_false]at e4;rw[e4]at e3;refine (gloop_go (s':=(1,[.str s,.bool true,.int .i64 4,.str t,dPats [k],dBools (joinB x (f x))])) ?_).trans (im _ 1 (.bool true) (by decide) (by have:=(joinB_outs x (f x)).2 hc;omega) (by rw[hj];exact hx))
   match h,h0 with
   |0,_=>simp only[go_sem,lB_,l308_3,el_P0,ePat_eq k,e1,e2,e3]
   |1,_=>simp only[go_sem,lB_,l308_3,el_P0,ePat_eq k,e1,e2,e3]
theorem l308_3_ok{t:ByteArray}{x:List Bool}{z:D}(hx:x.length=s.size+1) :
  gloop (lB G l308_3) (0,[.str s,z,.int .i64 5,.str t,dPats [k],dBools x])=some (0,[.str s,.bool false,.int .i64 5,.str t,dPats [k],dBools (joinB x (f x))]):=by
 have e1:=ih x hx;rw[ePat_eq]at e1;simp only[List.cons_append,List.nil_append]at e1;have hfx:=hf x hx;have e2:=bo_jnl (a:=x) (b:=f x) (by rw[hfx,hx]) (by omega);have e3:=bo_jnb x (f x);refine gloop_out ?_;cases hg:grewB x (f x)<;>rw[hg]at e3<;>simp only[go_sem,lB_,l308_3,el_P0,ePat_eq k,e1,e2,e3]
end
def st308(h:Option D)(s:ByteArray)(l:List XPat)(i:Nat)(x:List Bool):Nat×List D:=match h with
 |none=>(0,[.str s,dPats l,.int .i64 l.length,.int .i64 (i:Int),dBools x])
 |some z=>(1,[.str s,dPats l,.int .i64 l.length,.int .i64 (i:Int),z,dBools x])
def fn308(h:Option D)(s:ByteArray)(l:List XPat)(x:List Bool):Nat×List D:=match h with
 |none=>(0,[.str s,dPats l,.int .i64 l.length,.int .i64 l.length,.bool false,dBools x])
 |some z=>(1,[.str s,dPats l,.int .i64 l.length,.int .i64 l.length,.bool false,z,dBools x])
theorem l308_1_ok{s:ByteArray}{l:List XPat}{f:XPat→List Bool→List Bool}(hl:l.length≤mg)(hf:∀(k:XPat) (x:List Bool),x.length=s.size+1→(f k x).length=s.size+1)
  (ih:∀k∈l,∀x:List Bool,x.length=s.size+1→G 308 (ePat k++[.str s,dBools x])=some (0,[dBools (f k x)])):∀(m i:Nat) (x:List Bool) (h:Option D),i+m=l.length→x.length=s.size+1→
  ∃h',gloop (lB G l308_1) (st308 h s l i x)=some (fn308 h' s l ((l.drop i).foldl (fun o k=>f k o) x))
 |0,i,x,h,hi,hx=>by
  obtain rfl:i=l.length:=by omega
  refine⟨h,gloop_out ?_⟩;rw[List.drop_length,List.foldl_nil];cases h with
  |none=>simp only[go_sem,lB_,l308_1,st308,fn308,Nat.lt_irrefl]
  |some z=>simp only[go_sem,lB_,l308_1,st308,fn308,Nat.lt_irrefl]
 |m+1,i,x,h,hi,hx=>by
  have hn:nth l i=some (l[i]'(by omega)):=nth_lt (by omega);have h1:i < l.length:=by omega
  have hw:=wj h1 hl;have e1:=ih _ (nth_in hn) x hx;have e2:=el_P hn;obtain⟨h',hh⟩:=l308_1_ok hl hf ih m (i+1) (f (l[i]'(by omega)) x) (some (h.getD (dBools x))) (by omega) (hf _ x hx);refine⟨h',(gloop_go (s':=st308 (some (h.getD (dBools x))) s l (i+1) (f (l[i]'(by omega)) x)) ?_).trans (hh.trans ?_)⟩
  ·generalize (l[i]'(by omega))=k at *;rw[ePat_eq]at e1;simp only[List.cons_append,List.nil_append]at e1;cases h with
   |none=>
    simp only[go_sem,lB_,l308_1,st308,h1,e2,po_hasP];simp only[go_sem,ePat_eq k,e1,hw]
   |some z=>
    simp only[go_sem,lB_,l308_1,st308,h1,e2,po_hasP];simp only[go_sem,ePat_eq k,e1,hw]
  ·rw[drop_nth l i _ hn,List.foldl_cons]
theorem q308_n{s:ByteArray}(hs:s.size≤mg)(n:Nat):∀(p:XPat) (a:List Bool),SizeOf.sizeOf p < n→pOk 64 p=true→a.length=s.size+1→G 308 (ePat p++[.str s,dBools a])=some (0,[dBools (endsN s n p a)]):=by
 induction n with
 |zero=>intro p a h;omega
 |succ n ih=>
  intro p a hz hp ha;have hlen:=endsN_len (s:=s) n;have hk:∀k∈p.kids,∀x:List Bool,x.length=s.size+1→G 308 (ePat k++[.str s,dBools x])=some (0,[dBools (endsN s n k x)]):=fun k hk x hx=>ih k x (by have:=XPat.kid hk;omega) (pOk_kid hp hk) hx;have hw:=lenw hs;have hm:=bo_make (n:=s.size+1) (by simp only[mg]at hs;omega);have hkl:=pOk_len hp;have hc:=bo_cpy (l:=List.replicate (s.size+1) false) (m:=a) (by simpa using ha);refine gOf s308 (by rw[ePat_eq];rfl) ?_;simp only[endsN];unfold endsF;by_cases o1:p.op=1
  ·have hl:=l308_0_ok (s:=s) (t:=p.text) (a:=a) (op:=.int .i64 1) (ks:=dPats p.kids) hs ha;rw[if_pos o1];simp only[go_sem,hw,hm,t308,ePat_eq p,o1,hl]
  rw[if_neg o1];by_cases o2:p.op=2
  ·rw[if_pos o2];obtain⟨h',hl⟩:=l308_1_ok (s:=s) (l:=p.kids) (f:=endsN s n) (by simp only[mg];omega) hlen hk p.kids.length 0 a none (by omega) ha;rw[List.drop_zero]at hl;simp only[st308,n0]at hl;cases h' with
   |none=>
    simp only[fn308]at hl;simp only[go_sem,hw,hm,hc,t308,ePat_eq p,o2,hl]
   |some z=>
    simp only[fn308]at hl;simp only[go_sem,hw,hm,hc,t308,ePat_eq p,o2,hl]
  rw[if_neg o2];by_cases o3:p.op=3
  ·rw[if_pos o3];have hl:=gl_gather (b:=lB G l308_2) p.kids (fun i (x:List Bool)=>(0,[.str s,dBools a,dPats p.kids,.int .i64 p.kids.length,.int .i64 (i:Int),dBools x])) (fun i=>(p.kids.take i).foldl (fun o k=>joinB o (endsN s n k a)) (List.replicate (s.size+1) false)) (0,[.str s,dBools a,dPats p.kids,.int .i64 p.kids.length,.int .i64 p.kids.length,.bool false,dBools (p.kids.foldl (fun o k=>joinB o (endsN s n k a)) (List.replicate (s.size+1) false))]) (by
    intro i k hn;have hi:=nth_len hn;have hwi:=wj (i:=i) (n:=p.kids.length) hi (by simp only[mg];omega);have e1:=hk k (nth_in hn) a ha;have hfl:=foldJ_len (s:=s) (g:=fun k=>endsN s n k a) (p.kids.take i) (List.replicate (s.size+1) false) (by simp);have e2:=bo_jnl (a:=(p.kids.take i).foldl (fun o k=>joinB o (endsN s n k a)) (List.replicate (s.size+1) false)) (b:=endsN s n k a) (by rw[hlen k a ha,hfl]) (by rw[hlen k a ha];omega);have e3:=bo_jnb ((p.kids.take i).foldl (fun o k=>joinB o (endsN s n k a)) (List.replicate (s.size+1) false)) (endsN s n k a);rw[ePat_eq]at e1;simp only[List.cons_append,List.nil_append]at e1;rw[foldl_snoc _ _ _ _ _ hn];simp only[go_sem,lB_,l308_2,hi,el_P hn,po_hasP];simp only[go_sem,ePat_eq k,e1,e2,e3,hwi]) (by
    rw[List.take_length];simp only[go_sem,lB_,l308_2,Nat.lt_irrefl]) p.kids.length 0 (by omega)
   rw[n0,List.take_zero,List.foldl_nil]at hl;simp only[go_sem,hw,hm,t308,ePat_eq p,o3,hl]
  rw[if_neg o3];by_cases o4:p.op=4
  ·rw[if_pos o4];have o5:¬(4:Int)=5:=by decide
   by_cases h1:p.kids.length=1
   ·obtain⟨k,hkk⟩:=List.length_eq_one_iff.1 h1;have hs':=l308_4_ok (t:=p.text) (hlen k) (fun x hx=>hk k (by rw[hkk];simp) x hx) (s.size+2) a 0 (.bool false) (by decide) (by have:=outs_le a;omega) ha;rw[hkk,one1_1];simp only[go_sem,hw,hm,hc,t308,ePat_eq p,o4,o5,hkk,l308_e4,hs']
   ·rw[one1_n h1];have h2:=nth0 h1;simp only[go_sem,hw,hm,hc,t308,ePat_eq p,o4,o5,h2]
  rw[if_neg o4];by_cases o5:p.op=5
  ·rw[if_pos o5];by_cases h1:p.kids.length=1
   ·obtain⟨k,hkk⟩:=List.length_eq_one_iff.1 h1;have hs':=l308_3_ok (t:=p.text) (z:=.bool false) (hlen k) (fun x hx=>hk k (by rw[hkk];simp) x hx) ha;rw[hkk,one1_1];simp only[go_sem,hw,hm,hc,t308,ePat_eq p,o5,hkk,hs']
   ·rw[one1_n h1];have h2:=nth0 h1;simp only[go_sem,hw,hm,hc,t308,ePat_eq p,o5,h2]
  rw[if_neg o5];simp only[go_sem,hw,hm,t308,ePat_eq p,o1,o2,o3,o4,o5]
theorem q309{s:ByteArray}{p:XPat}(hs:s.size≤mg)(hp:pOk 64 p=true):G 309 (ePat p++[.str s])=some (0,[.bool (matP p s)]):=by
 have hw:=lenw hs;have hm:=bo_make (n:=s.size+1) (by simp only[mg]at hs;omega);have h1:=q308_n hs (SizeOf.sizeOf p+1) p (true::List.replicate s.size false) (Nat.lt_succ_self _) hp (by simp);have hl:=endsN_len (s:=s) (SizeOf.sizeOf p+1) p (true::List.replicate s.size false) (by simp);rw[ePat_eq]at h1;simp only[List.cons_append,List.nil_append]at h1;have e1:=bo_chk (l:=List.replicate (s.size+1) false) (i:=0) (by simp);have e2:=bo_set (l:=List.replicate (s.size+1) false) (i:=0) (c:=true) (by simp);have e3:(List.replicate (s.size+1) false).set 0 true=true::List.replicate s.size false:=by rw[List.replicate_succ];rfl
 rw[e3]at e2;rw[n0]at e1 e2;have e4:=bo_chk (l:=endsN s (SizeOf.sizeOf p+1) p (true::List.replicate s.size false)) (i:=s.size) (by rw[hl];omega);obtain⟨b,hb⟩:∃b,nth (endsN s (SizeOf.sizeOf p+1) p (true::List.replicate s.size false)) s.size=some b:=⟨_,nth_lt (by rw[hl];omega)⟩
 have e5:=bo_eld hb;refine gOf s309 (by rw[ePat_eq];rfl) ?_;have e6:matP p s=b:=by rw[matP,hb];rfl
 rw[e6];generalize endsN s (SizeOf.sizeOf p+1) p (true::List.replicate s.size false)=z at *;simp only[go_sem,t309,ePat_eq p,hw,hm,e1,e2,h1,e4,e5]
end
section
set_option maxRecDepth 100000
set_option maxHeartbeats 4000000
section
variable {s:ByteArray} {alt:Nat→PR}
theorem q279(h30:s.size≤30){i:Nat}(hi:i < s.size)(hA:∀j,i < j→j≤s.size→RdA 280 s j 0 2 false (alt j)):RdA 279 s i 1 3 false (pAtom alt s i):=by
 have hs:s.size≤mg:=by simp only[mg];omega
 unfold pAtom;cases h40:isAt s i 40 with
 |true=>
  have f1:=m275 (q275_t (b:=false) hs h40);obtain⟨j,p,k,b,hj,hg,p1,p2,p3,p4⟩:=hA (i+1) (by omega) (by omega);rw[if_pos rfl];cases h41:isAt s k 41 with
  |true=>
   have f3:=m275 (q275_t (b:=b) hs h41);have hk:=isAt_lt h41;have hP:PA s i 1 (match alt (i+1) with
     |some (p,j)=>if isAt s j 41=true then some (p,j+1) else none
     |none=>none) p (k+1) b:=by
    refine⟨p1,by omega,by omega,?_⟩;cases hr:alt (i+1) with
    |none=>rw[hr]at p4;exact p4
    |some q=>
     rw[hr]at p4;obtain⟨h5,rfl,p5⟩:=p4;simp only[h41,if_true];exact⟨h5,trivial,by omega⟩
   match j,hj with
   |0,_=>
    have:=k279_a (.inl ⟨_,rfl⟩) f1 (m280_0 hg) f3;rw[Bool.not_true,Bool.or_false]at this;exact⟨0,p,k+1,b,by decide,g279_0 this,hP⟩
   |1,_=>
    have:=k279_a (.inr ⟨_,rfl⟩) f1 (m280_1 hg) f3;rw[Bool.not_true,Bool.or_false]at this;exact⟨1,p,k+1,b,by decide,g279_1 this,hP⟩
  |false=>
   have f3:=m275 (q275_f (b:=b) h41);have hP:PA s i 1 (match alt (i+1) with
     |some (p,j)=>if isAt s j 41=true then some (p,j+1) else none
     |none=>none) p k true:=by
    refine⟨p1,by omega,p3,?_⟩;cases hr:alt (i+1) with
    |none=>rfl
    |some q=>
     rw[hr]at p4;obtain⟨h5,rfl,p5⟩:=p4;simp only[h41,Bool.false_eq_true,if_false]
   match j,hj with
   |0,_=>
    have:=k279_a (.inl ⟨_,rfl⟩) f1 (m280_0 hg) f3;rw[Bool.not_false,Bool.or_true]at this;exact⟨0,p,k,true,by decide,g279_0 this,hP⟩
   |1,_=>
    have:=k279_a (.inr ⟨_,rfl⟩) f1 (m280_1 hg) f3;rw[Bool.not_false,Bool.or_true]at this;exact⟨1,p,k,true,by decide,g279_1 this,hP⟩
 |false=>
  have f1:=m275 (q275_f (b:=false) h40);rw[if_neg Bool.false_ne_true];cases h46:isAt s i 46 with
  |true=>
   have f3:=m275 (q275_t (b:=false) hs h46);have h91:isAt s i 91=false:=by
    rw[Bool.eq_false_iff];intro h;have a1:=(isAt_iff.1 h).2;have a2:=(isAt_iff.1 h46).2;omega
   have:=k279_b f1 f3;rw[any_eq]at this;rw[h91,if_neg Bool.false_ne_true,if_pos rfl];exact⟨2,⟨1,anyT,[]⟩,i+1,false,by decide,g279_2 this,pOk_leaf _ _ (bsT_sz _),by omega,by omega,rfl,rfl,by omega⟩
  |false=>
   have f3:=m275 (q275_f (b:=false) h46);cases h91:isAt s i 91 with
   |true=>
    have f2:=m275 (q275_t (b:=false) hs h91);rw[if_pos rfl];cases h93:isAt s (i+1) 93 with
    |false=>
     obtain⟨k,b,f',n',e1,e2,e3,e4⟩:=l279_2_ok h30 (s.size+1) (i+1) 0 (fun _=>false) (by omega) (by omega) (by omega) (fun _=>h93);have:=k279_c f1 f3 f2 e1;refine⟨2,⟨1,chT f',[]⟩,k,b,by decide,g279_2 this,pOk_leaf _ _ (bsT_sz _),by omega,e3,?_⟩;unfold pCls;cases hr:pMems s (s.size+1) (i+1) with
     |none=>rw[hr]at e4;exact e4
     |some q=>
      obtain⟨l,k0⟩:=q;rw[hr]at e4;obtain⟨h5,h6,h7⟩:=e4;dsimp only at h6;subst h5 h6;cases l with
      |nil=>
       exfalso
       simp only[pMems,h93,Bool.false_eq_true,if_false]at hr
       split at hr
       ·obtain⟨p,_,h⟩:=Option.map_eq_some_iff.1 hr;simp at h
       ·cases hr
      |cons r l=>
       have hf:chT f'=rngT (r::l):=by
        rw[chT_bs,rngT,h7]
        congr 1
       rw[hf];exact⟨rfl,rfl,by omega⟩
    |true=>
     obtain⟨hl3,hb3⟩:=isAt_iff.1 h93;have hc:okC1 s (i+1)=false:=by
      simp only[okC1,hb3];rw[Bool.and_eq_false_iff];exact .inr (by decide)
     have ht:isAt s (i+1) 126=false:=by
      rw[Bool.eq_false_iff];intro h;have a1:=(isAt_iff.1 h).2;omega
     have he:=it279 (a:=0) (z0:=0) (f:=fun _=>false) (i3:=0) (b3:=false) (n:=0) (by decide) (by decide) (by decide) (.inl rfl) (m278 (q278_f (b:=false) hc)) (m275 (q275_f (b:=true) ht)) (fun h=>by cases h);have hx:=it279_bad (s:=s) (i:=((i+1:Nat):Int)) (n:=1) (f:=rg (fun _=>false) 0 0);have hl:ev T mf0 (.loop lp279_2) (st2 s ((i+1:Nat):Int) false 0 fun _=>false)=some (.exit 3,⟨[(0,.ptr 900 0),(2,.ptr 2 0),(3,.ptr 3 0),(6,.d (.int .i64 ((1:Nat):Int))),(51,.d (.bool false))],[(2,patZ),(3,bC (rg (fun _=>false) 0 0)),(900,rC s ((i+1:Nat):Int) true)],[]⟩):=by
      rw[ev_loop,he];exact hx
     have:=k279_c f1 f3 f2 hl;refine⟨2,⟨1,chT _,[]⟩,i+1,true,by decide,g279_2 this,pOk_leaf _ _ (bsT_sz _),by omega,by omega,?_⟩;have hr:pMems s (s.size+1) (i+1)=some ([],i+1+1):=by simp only[pMems,h93,if_true]
     have:pCls s (i+1)=none:=by rw[pCls,hr]
     rw[this]
   |false=>
    have f2:=m275 (q275_f (b:=false) h91);rw[if_neg Bool.false_ne_true,if_neg Bool.false_ne_true];cases hc:okC1 s i with
    |false=>
     have:=k279_d f1 f3 f2 (m278 (q278_f (b:=false) hc));have hp:(decide (i < s.size) && pCh (bAt s i))=false:=by
      simp only[okC1,hi,decide_true,Bool.true_and,chB]at hc;simp only[hi,decide_true,Bool.true_and,pCh];generalize inB 97 122 (bAt s i)=x at *;generalize inB 48 57 (bAt s i)=y at *;generalize decide (bAt s i=45)=z at *;cases x<;>cases y<;>cases z<;>simp_all
     rw[hp,if_neg Bool.false_ne_true];exact⟨2,⟨1,_,[]⟩,i,true,by decide,g279_2 this,pOk_leaf _ _ (by decide),by omega,by omega,rfl⟩
    |true=>
     have:=k279_d f1 f3 f2 (m278 (q278_t (b:=false) hs hc));have h46':¬bAt s i=46:=fun h=>by rw[isAt_iff.2 ⟨hi,h⟩]at h46;cases h46
     have e1:([UInt8.ofNat (bAt s i).toNat].toArray:Array UInt8)=(oneT (bAt s i)).data:=rfl;have sz1:(oneT (bAt s i)).size≤256:=by rw[oneT,bA_size];simp
     have hp:(decide (i < s.size) && pCh (bAt s i))=!decide (bAt s i=95):=by
      simp only[okC1,hi,decide_true,Bool.true_and,chB]at hc;simp only[hi,decide_true,Bool.true_and,pCh];by_cases h95:bAt s i=95
      ·rw[h95];decide
      ·simp only[h95,h46',decide_false,Bool.false_or,Bool.or_false]at hc;rw[hc];simp[h95]
     rw[hp];by_cases h95:bAt s i=95
     ·rw[decide_eq_true h95,Bool.true_or,Bool.or_true]at this;rw[decide_eq_true h95,Bool.not_true,if_neg Bool.false_ne_true];exact⟨2,⟨1,oneT (bAt s i),[]⟩,i+1,true,by decide,g279_2 this,pOk_leaf _ _ sz1,by omega,by omega,rfl⟩
     ·rw[decide_eq_false h95,decide_eq_false h46',Bool.or_false,Bool.or_false]at this;rw[decide_eq_false h95,Bool.not_false,if_pos rfl];exact⟨2,⟨1,oneT (bAt s i),[]⟩,i+1,false,by decide,g279_2 this,pOk_leaf _ _ sz1,by omega,by omega,rfl,rfl,by omega⟩
theorem q282(h30:s.size≤30){i:Nat}(h279:RdA 279 s i 1 3 false (pAtom alt s i)):RdA 282 s i 1 4 false (pItem alt s i):=by
 have hs:s.size≤mg:=by simp only[mg];omega
 obtain⟨j,p,k,b,hj,hg,p1,p2,p3,p4⟩:=h279;simp only[ePat_eq,List.cons_append,List.nil_append]at hg;have q1:=q281 p1;rw[ePat_eq]at q1;have g1:=pSuf_ok (n:=64) (by decide) (s:=s) k p1;have g2:=pSuf_le s p k;have hP:PA s i 1 (pItem alt s i) (pSuf s p k).1 (pSuf s p k).2 b:=by
  refine⟨g1,by omega,g2.2 p3,?_⟩;unfold pItem;cases hr:pAtom alt s i with
  |none=>rw[hr]at p4;exact p4
  |some q=>
   rw[hr]at p4;obtain⟨h5,rfl,p5⟩:=p4;exact⟨h5,rfl,by omega⟩
 unfold pSuf at hP;cases c1:isAt s k 42 with
 |true=>
  have f2:=q275_t (b:=b) hs c1;rw[c1,if_pos rfl]at hP
  match j,hj with
  |0,_=>exact⟨0,_,_,b,by decide,gOf s282 rfl (by simp only[go_sem,hg,npl3,mkP,P1,xpat_eta,eT,t282,f2,ePat_eq]),hP⟩
  |1,_=>exact⟨0,_,_,b,by decide,gOf s282 rfl (by simp only[go_sem,hg,mkP,P1,xpat_eta,eT,t282,f2,ePat_eq]),hP⟩
  |2,_=>exact⟨3,_,_,b,by decide,gOf s282 rfl (by simp only[go_sem,hg,pl2,mkP,P1,xpat_eta,eT,t282,f2,ePat_eq]),hP⟩
 |false=>
  have f2:=q275_f (b:=b) c1;rw[c1,if_neg Bool.false_ne_true]at hP;cases c2:isAt s k 43 with
  |true=>
   have f3:=q275_t (b:=b) hs c2;rw[c2,if_pos rfl]at hP
   match j,hj with
   |0,_=>exact⟨0,_,_,b,by decide,gOf s282 rfl (by simp only[go_sem,hg,npl3,mkP,mkP2,P1,P2,q1,xpat_eta,eT,t282,f2,f3,ePat_eq]),hP⟩
   |1,_=>exact⟨0,_,_,b,by decide,gOf s282 rfl (by simp only[go_sem,hg,npl3,mkP,mkP2,P1,P2,q1,xpat_eta,eT,t282,f2,f3,ePat_eq]),hP⟩
   |2,_=>exact⟨0,_,_,b,by decide,gOf s282 rfl (by simp only[go_sem,hg,npl3,mkP,mkP2,P1,P2,q1,xpat_eta,eT,t282,f2,f3,ePat_eq]),hP⟩
  |false=>
   have f3:=q275_f (b:=b) c2;rw[c2,if_neg Bool.false_ne_true]at hP;cases c3:isAt s k 63 with
   |true=>
    have f5:=q275_t (b:=b) hs c3;rw[c3,if_pos rfl]at hP
    match j,hj with
    |0,_=>exact⟨0,_,_,b,by decide,gOf s282 rfl (by simp only[go_sem,hg,npl3,mkP,P1,xpat_eta,eT,t282,f2,f3,f5,ePat_eq]),hP⟩
    |1,_=>exact⟨0,_,_,b,by decide,gOf s282 rfl (by simp only[go_sem,hg,mkP,P1,xpat_eta,eT,t282,f2,f3,f5,ePat_eq]),hP⟩
    |2,_=>exact⟨3,_,_,b,by decide,gOf s282 rfl (by simp only[go_sem,hg,pl2,mkP,P1,xpat_eta,eT,t282,f2,f3,f5,ePat_eq]),hP⟩
   |false=>
    have f5:=q275_f (b:=b) c3;rw[c3,if_neg Bool.false_ne_true]at hP
    match j,hj with
    |0,_=>exact⟨1,_,_,b,by decide,gOf s282 rfl (by simp only[go_sem,hg,t282,f2,f3,f5,ePat_eq]),hP⟩
    |1,_=>exact⟨2,_,_,b,by decide,gOf s282 rfl (by simp only[go_sem,hg,t282,f2,f3,f5,ePat_eq]),hP⟩
    |2,_=>exact⟨3,_,_,b,by decide,gOf s282 rfl (by simp only[go_sem,hg,t282,f2,f3,f5,ePat_eq]),hP⟩
end
end
section
set_option maxRecDepth 100000
set_option maxHeartbeats 4000000
section
variable {s:ByteArray} {alt:Nat→PR}
theorem l283_step(h30:s.size≤30){i:Nat}{l:List XPat}(hl:l.length≤100)(hM:pMore s i=true)(h282:RdA 282 s i 1 4 false (pItem alt s i)) :
  ∃(p:XPat) (k:Nat) (b:Bool),lB G l283_0 (0,[.int .i64 0,.str ⟨#[]⟩,.str s,.int .i64 (i:Int),.bool false,dPats l])=some (.go (0,[.int .i64 0,.str ⟨#[]⟩,.str s,.int .i64 (k:Int),.bool b,dPats (l++[p])]))∧PA s i 1 (pItem alt s i) p k b:=by
 have hll:l.length≤mg:=by simp only[mg];omega
 simp only[pMore,Bool.and_eq_true,decide_eq_true_eq,Bool.not_eq_true',decide_eq_false_iff_not]at hM;obtain⟨hi,m1,m2⟩:=hM;have f4:=po_six s i hi;have fa:=fun op t ks=>appP hll op t ks;obtain⟨j,p,k,b,hj,hg,hP⟩:=h282;simp only[ePat_eq,List.cons_append,List.nil_append]at hg;refine⟨p,k,b,?_,hP⟩
 match j,hj with
 |0,_=>simp only[go_sem,hi,m1,m2,f4,hg,mkP,fa,xpat_eta,lB_,l283_0]
 |1,_=>simp only[go_sem,hi,m1,m2,f4,hg,npl3,mkP,fa,xpat_eta,lB_,l283_0]
 |2,_=>simp only[go_sem,hi,m1,m2,f4,hg,mkP,fa,xpat_eta,lB_,l283_0]
 |3,_=>simp only[go_sem,hi,m1,m2,f4,hg,pl2,mkP,fa,xpat_eta,lB_,l283_0]
theorem l283_ok(h30:s.size≤30){i0:Nat}(hA:∀j,i0 < j→j≤s.size→RdA 280 s j 0 2 false (alt j)):∀(g i:Nat) (l:List XPat),i0≤i→i≤s.size→s.size+1 - i≤g→Lsx l i→
  ∃(l':List XPat) (k:Nat) (b:Bool),gloop (lB G l283_0) (0,[.int .i64 0,.str ⟨#[]⟩,.str s,.int .i64 (i:Int),.bool false,dPats l])=some (0,[.bool false,.int .i64 0,.str ⟨#[]⟩,.str s,.int .i64 (k:Int),.bool b,dPats l'])∧RdL i s l (pItems alt s g i) l' k b:=by
 have hs:s.size≤mg:=by simp only[mg];omega
 intro g
 induction g with
 |zero=>intro i l _ h1 h2;omega
 |succ g ih=>
  intro i l h0 h1 h2 hl;simp only[pItems];cases hM:pMore s i with
  |false=>
   simp only[Bool.false_eq_true,if_false];refine⟨l,i,false,gloop_out ?_,⟨by have:=hl.1;omega,hl.2⟩,Nat.le_refl _,h1,rfl,by rw[List.append_nil],rfl⟩;by_cases hi:i < s.size
   ·have f4:=po_six s i hi;simp only[pMore,hi,decide_true,Bool.true_and]at hM;by_cases m1:bAt s i=124
    ·simp only[go_sem,lB_,l283_0,hi,m1,f4]
    ·have m2:bAt s i=41:=by
      by_cases m2:bAt s i=41
      ·exact m2
      ·simp[m1,m2]at hM
     have m3:¬(41:Int)=124:=by decide
     simp only[go_sem,lB_,l283_0,hi,m2,m3,f4]
   ·simp only[go_sem,lB_,l283_0,hi]
  |true=>
   have hi:i < s.size:=by simp only[pMore,Bool.and_eq_true,decide_eq_true_eq]at hM;exact hM.1
   simp only[if_true];obtain⟨p,k,b,e1,p1,p2,p3,p4⟩:=l283_step h30 (l:=l) (by have:=hl.1;omega) hM (q282 h30 (q279 h30 hi fun j hj hj'=>hA j (by omega) hj'));cases hr:pItem alt s i with
   |none=>
    rw[hr]at p4;subst p4;refine⟨l++[p],k,true,(gloop_go e1).trans (gloop_out ?_),Lsx_app (n:=30) ⟨by have:=hl.1;omega,hl.2⟩ p1 (by decide),p2,p3,rfl⟩;simp only[go_sem,lB_,l283_0]
   |some q=>
    rw[hr]at p4;obtain⟨rfl,rfl,p5⟩:=p4;obtain⟨l',k',b',e2,e3⟩:=ih k (l++[p]) (by omega) p3 (by omega) (Lsx_app hl p1 (by omega));exact⟨l',k',b',(gloop_go e1).trans e2,RdL_cons (by omega) e3⟩
theorem q283(h30:s.size≤30){i:Nat}(h1:i≤s.size)(hA:∀j,i < j→j≤s.size→RdA 280 s j 0 2 false (alt j)):RdA 283 s i 0 2 false (pSeq alt s i):=by
 obtain⟨l',k,b,e1,e2,e3,e4,e5⟩:=l283_ok h30 hA (s.size+1) i [] (Nat.le_refl _) h1 (by omega) ⟨by simp,by simp⟩;have m0:evPO (.mkl 3 false) []=some (dPats []):=po_mkl0 3 false;have hP:PA s i 0 (pSeq alt s i) (wrapP 2 l') k b:=by
  refine⟨wrapP_ok (by have:=e2.1;omega) e2.2,e3,e4,?_⟩;unfold pSeq;cases hr:pItems alt s (s.size+1) i with
  |none=>rw[hr]at e5;exact e5
  |some q=>
   rw[hr]at e5;obtain⟨h5,h6,h7⟩:=e5;subst h6 h7;exact⟨h5,rfl,by omega⟩
 by_cases hl:l'.length=1
 ·obtain⟨p,rfl⟩:=List.length_eq_one_iff.1 hl;have hw:wrapP 2 [p]=p:=rfl;rw[hw]at hP;refine⟨0,p,k,b,by decide,gOf s283 rfl ?_,hP⟩;simp only[go_sem,t283,m0,e1,eld_P,chk_P,ePat_eq p]
 ·rw[wrap_n hl]at hP;refine⟨1,_,k,b,by decide,gOf s283 rfl ?_,hP⟩;simp only[go_sem,t283,m0,e1,len_1,hl,ePat_eq,eT]
theorem q283_b{i:Nat}(h1:i≤s.size):RdA 283 s i 0 2 true none:=by
 have m0:evPO (.mkl 3 false) []=some (dPats []):=po_mkl0 3 false;have hl:gloop (lB G l283_0) (0,[.int .i64 0,.str ⟨#[]⟩,.str s,.int .i64 (i:Int),.bool true,dPats []])=some (0,[.bool false,.int .i64 0,.str ⟨#[]⟩,.str s,.int .i64 (i:Int),.bool true,dPats []]):=by
  refine gloop_out ?_;simp only[go_sem,lB_,l283_0]
 refine⟨1,⟨2,eT,[]⟩,i,true,by decide,gOf s283 rfl ?_,pOk_mk eT_sz (by simp) (by simp),Nat.le_refl _,h1,rfl⟩;simp only[go_sem,t283,n0,m0,hl,ePat_eq,eT]
theorem l280_bad(h30:s.size≤30):∀(g i:Nat) (l:List XPat),i≤s.size→s.size+1 - i≤g→Lsx l (i+2)→
  ∃(l':List XPat) (k:Nat),gloop (lB G l280_0) (0,[.int .i64 0,.str ⟨#[]⟩,.str s,.int .i64 (i:Int),.bool true,dPats l])=some (0,[.bool false,.int .i64 0,.str ⟨#[]⟩,.str s,.int .i64 (k:Int),.bool true,dPats l'])∧Lsx l' 40∧i≤k∧k≤s.size:=by
 have hs:s.size≤mg:=by simp only[mg];omega
 intro g
 induction g with
 |zero=>intro i l h1 h2;omega
 |succ g ih=>
  intro i l h1 h2 hl;cases hM:isAt s i 124 with
  |false=>
   have f1:=q275_f (b:=true) hM;exact⟨l,i,gloop_out (by simp only[go_sem,lB_,l280_0,f1]),⟨by have:=hl.1;omega,hl.2⟩,Nat.le_refl _,h1⟩
  |true=>
   have f1:=q275_t (b:=true) hs hM;have hi:=isAt_lt hM;have hll:l.length≤mg:=by have:=hl.1;simp only[mg];omega
   have fa:=fun op t ks=>appP hll op t ks;obtain⟨j,p,k,b,hj,hg,p1,p2,p3,p4⟩:=q283_b (s:=s) (i:=i+1) (by omega);simp only[ePat_eq,List.cons_append,List.nil_append]at hg;have p4':b=true:=p4;subst p4';have go:lB G l280_0 (0,[.int .i64 0,.str ⟨#[]⟩,.str s,.int .i64 (i:Int),.bool true,dPats l])=some (.go (0,[.int .i64 0,.str ⟨#[]⟩,.str s,.int .i64 (k:Int),.bool true,dPats (l++[p])])):=by
    match j,hj with
    |0,_=>simp only[go_sem,lB_,l280_0,f1,hg,npl3,mkP,fa,xpat_eta]
    |1,_=>simp only[go_sem,lB_,l280_0,f1,hg,mkP,fa,xpat_eta]
   obtain⟨l',k',e1,e2,e3,e4⟩:=ih k (l++[p]) p3 (by omega) (Lsx_app hl p1 (by omega));exact⟨l',k',(gloop_go go).trans e1,e2,by omega,e4⟩
theorem l280_ok(h30:s.size≤30){i0:Nat}(hA:∀j,i0 < j→j≤s.size→RdA 280 s j 0 2 false (alt j)):∀(g i:Nat) (l:List XPat),i0≤i→i≤s.size→s.size+1 - i≤g→Lsx l (i+1)→
  ∃(l':List XPat) (k:Nat) (b:Bool),gloop (lB G l280_0) (0,[.int .i64 0,.str ⟨#[]⟩,.str s,.int .i64 (i:Int),.bool false,dPats l])=some (0,[.bool false,.int .i64 0,.str ⟨#[]⟩,.str s,.int .i64 (k:Int),.bool b,dPats l'])∧RdL i s l (pBars alt s g i) l' k b:=by
 have hs:s.size≤mg:=by simp only[mg];omega
 intro g
 induction g with
 |zero=>intro i l _ h1 h2;omega
 |succ g ih=>
  intro i l h0 h1 h2 hl;simp only[pBars];cases hM:isAt s i 124 with
  |false=>
   have f1:=q275_f (b:=false) hM;simp only[Bool.false_eq_true,if_false];refine⟨l,i,false,gloop_out ?_,⟨by have:=hl.1;omega,hl.2⟩,Nat.le_refl _,h1,rfl,by rw[List.append_nil],rfl⟩;simp only[go_sem,lB_,l280_0,f1]
  |true=>
   have f1:=q275_t (b:=false) hs hM;have hi:=isAt_lt hM;have hll:l.length≤mg:=by have:=hl.1;simp only[mg];omega
   have fb:=fun x=>appP1 hll x;have fa:=fun op t ks=>appP hll op t ks;simp only[if_true];obtain⟨j,p,k,b,hj,hg,p1,p2,p3,p4⟩:=q283 h30 (i:=i+1) (by omega) fun j hj hj'=>hA j (by omega) hj';simp only[ePat_eq,List.cons_append,List.nil_append]at hg;have go:lB G l280_0 (0,[.int .i64 0,.str ⟨#[]⟩,.str s,.int .i64 (i:Int),.bool false,dPats l])=some (.go (0,[.int .i64 0,.str ⟨#[]⟩,.str s,.int .i64 (k:Int),.bool b,dPats (l++[p])])):=by
    match j,hj with
    |0,_=>simp only[go_sem,lB_,l280_0,f1,hg,npl3,mkP,fa,xpat_eta]
    |1,_=>simp only[go_sem,lB_,l280_0,f1,hg,mkP,fa,xpat_eta]
   cases hr:pSeq alt s (i+1) with
   |none=>
    rw[hr]at p4;subst p4;obtain⟨l',k',e1,e2,e3,e4⟩:=l280_bad h30 (s.size+1) k (l++[p]) p3 (by omega) (Lsx_app hl p1 (by omega));exact⟨l',k',true,(gloop_go go).trans e1,e2,by omega,e4,rfl⟩
   |some q=>
    rw[hr]at p4;obtain⟨rfl,rfl,p5⟩:=p4;obtain⟨l',k',b',e2,e3⟩:=ih k (l++[p]) (by omega) p3 (by omega) (Lsx_app hl p1 (by omega));exact⟨l',k',b',(gloop_go go).trans e2,RdL_cons (by omega) e3⟩
theorem q280_1(h30:s.size≤30){i:Nat}(h1:i≤s.size)(hA:∀j,i < j→j≤s.size→RdA 280 s j 0 2 false (alt j)):RdA 280 s i 0 2 false (pAlt1 alt s i):=by
 obtain⟨j,p,k,b,hj,hg,p1,p2,p3,p4⟩:=q283 h30 h1 hA;simp only[ePat_eq,List.cons_append,List.nil_append]at hg;have he:∃(l':List XPat) (k':Nat) (b':Bool),gloop (lB G l280_0) (0,[.int .i64 0,.str ⟨#[]⟩,.str s,.int .i64 (k:Int),.bool b,dPats [p]])=some (0,[.bool false,.int .i64 0,.str ⟨#[]⟩,.str s,.int .i64 (k':Int),.bool b',dPats l'])∧PA s i 0 (pAlt1 alt s i) (wrapP 3 l') k' b':=by
  unfold pAlt1;cases hr:pSeq alt s i with
  |none=>
   rw[hr]at p4;subst p4;obtain⟨l',k',e1,e2,e3,e4⟩:=l280_bad h30 (s.size+1) k [p] p3 (by omega) ⟨by simp,by simpa using p1⟩;exact⟨l',k',true,e1,wrapP_ok (by have:=e2.1;omega) e2.2,by omega,e4,rfl⟩
  |some q=>
   rw[hr]at p4;obtain⟨rfl,rfl,p5⟩:=p4;obtain⟨l',k',b',e1,e2,e3,e4,e5⟩:=l280_ok h30 hA (s.size+1) k [p] p2 p3 (by omega) ⟨by simp,by simpa using p1⟩;refine⟨l',k',b',e1,wrapP_ok (by have:=e2.1;omega) e2.2,by omega,e4,?_⟩;dsimp only;cases hr2:pBars alt s (s.size+1) k with
   |none=>rw[hr2]at e5;exact e5
   |some q=>
    rw[hr2]at e5;obtain⟨h5,h6,h7⟩:=e5;subst h6 h7;exact⟨h5,rfl,by omega⟩
 obtain⟨l',k',b',e1,hP⟩:=he;have hg':∀(t:Nat×List D) (h:denT G (t280) 0 [.str s,.int .i64 (i:Int),.bool false]=some t),True:=fun _ _=>trivial;by_cases hl:l'.length=1
 ·obtain⟨q,rfl⟩:=List.length_eq_one_iff.1 hl;have hw:wrapP 3 [q]=q:=rfl;rw[hw]at hP;refine⟨0,q,k',b',by decide,gOf s280 rfl ?_,hP⟩
  match j,hj with
  |0,_=>simp only[go_sem,t280,hg,npl3,mkP,P1,xpat_eta,e1,eld_P,chk_P,ePat_eq q]
  |1,_=>simp only[go_sem,t280,hg,mkP,P1,xpat_eta,e1,eld_P,chk_P,ePat_eq q]
 ·rw[wrap_n hl]at hP;refine⟨1,_,k',b',by decide,gOf s280 rfl ?_,hP⟩
  match j,hj with
  |0,_=>simp only[go_sem,t280,hg,npl3,mkP,P1,xpat_eta,e1,len_1,hl,ePat_eq,eT]
  |1,_=>simp only[go_sem,t280,hg,mkP,P1,xpat_eta,e1,len_1,hl,ePat_eq,eT]
theorem q280_n(h30:s.size≤30):∀(g i:Nat),i≤s.size→s.size+1 - i≤g→RdA 280 s i 0 2 false (pAlt s g i)
 |0,i,h1,h2=>by omega
 |g+1,i,h1,h2=>q280_1 h30 h1 fun j hj hj'=>q280_n h30 g j hj' (by omega)
end
theorem q284{s:ByteArray}:∃j p,j < 3∧G 284 [.str s]=some (j,ePat p++[.bool (isPat s)])∧∀q,pText s=some q→p=q∧pOk 64 p=true:=by
 unfold isPat pText;by_cases h:30 < s.size
 ·refine⟨0,⟨0,eT,[]⟩,by decide,gOf s284 rfl ?_,fun q hq=>by rw[if_pos h]at hq;cases hq⟩;rw[if_pos h];simp only[go_sem,t284,gt30,h,ePat_eq,Option.isSome_none];rfl
 ·rw[if_neg h];obtain⟨j,p,k,b,hj,hg,p1,p2,p3,p4⟩:=q280_n (s:=s) (by omega) (s.size+1) 0 (by omega) (by omega);simp only[ePat_eq,List.cons_append,List.nil_append,n0]at hg;cases hr:pAlt s (s.size+1) 0 with
  |none=>
   rw[hr]at p4;subst p4;refine⟨0,⟨0,eT,[]⟩,by decide,gOf s284 rfl ?_,fun q hq=>by cases hq⟩
   match j,hj with
   |0,_=>simp only[go_sem,t284,gt30,h,hg,ePat_eq,Option.isSome_none];rfl
   |1,_=>simp only[go_sem,t284,gt30,h,hg,ePat_eq,Option.isSome_none];rfl
  |some q=>
   rw[hr]at p4;obtain⟨rfl,rfl,p5⟩:=p4;dsimp only;by_cases hk:k=s.size
   ·rw[if_pos hk];refine⟨j+1,p,by omega,gOf s284 rfl ?_,fun q hq=>by cases hq;exact⟨rfl,p1⟩⟩
    match j,hj with
    |0,_=>simp only[go_sem,t284,gt30,h,hg,hk,ePat_eq,Option.isSome_some]
    |1,_=>simp only[go_sem,t284,gt30,h,hg,hk,ePat_eq,Option.isSome_some]
   ·rw[if_neg hk];refine⟨0,⟨0,eT,[]⟩,by decide,gOf s284 rfl ?_,fun q hq=>by cases hq⟩
    match j,hj with
    |0,_=>simp only[go_sem,t284,gt30,ne_nn,h,hg,hk,ePat_eq,Option.isSome_none];rfl
    |1,_=>simp only[go_sem,t284,gt30,ne_nn,h,hg,hk,ePat_eq,Option.isSome_none];rfl
theorem q285(s:ByteArray):G 285 [.str s]=some (0,[.bool (isPat s)]):=by
 obtain⟨j,p,hj,hg,_⟩:=q284 (s:=s);simp only[ePat_eq,List.cons_append,List.nil_append]at hg;refine gOf s285 rfl ?_
 match j,hj with
 |0,_=>simp only[go_sem,t285,hg]
 |1,_=>simp only[go_sem,t285,hg]
 |2,_=>simp only[go_sem,t285,hg]
theorem q310{t s:ByteArray}(hs:s.size≤mg):G 310 [.str t,.str s]=some (0,[.bool (matT t s)]):=by
 obtain⟨j,p,hj,hg,hq⟩:=q284 (s:=t);simp only[ePat_eq,List.cons_append,List.nil_append]at hg;have pl1:∀b,evPO .pl [.bool b]=some (.bool false):=fun b=>rfl;refine gOf s310 rfl ?_;unfold matT;cases hp:pText t with
 |none=>
  have hi:isPat t=false:=by rw[isPat,hp];rfl
  rw[hi]at hg
  match j,hj with
  |0,_=>simp only[go_sem,t310,hg]
  |1,_=>simp only[go_sem,t310,hg]
  |2,_=>simp only[go_sem,t310,hg]
 |some q=>
  have hi:isPat t=true:=by rw[isPat,hp];rfl
  obtain⟨rfl,hok⟩:=hq q hp;have h5:=q309 hs hok;simp only[ePat_eq,List.cons_append,List.nil_append]at h5;rw[hi]at hg
  match j,hj with
  |0,_=>simp only[go_sem,t310,hg,h5,pl1]
  |1,_=>simp only[go_sem,t310,hg,h5]
  |2,_=>simp only[go_sem,t310,hg,h5,pl1]
end
def gv(c:Bool)(r:Option D):Option D:=if c=true then r else some (.bool false)
def gw(c:Bool)(x:D):D:=if c=true then x else .bool false
@[congr] theorem gv_congr {c c':Bool} {r r':Option D} (h:c=c') (h':c'=true→r=r'):gv c r=gv c' r':=by
 subst h;unfold gv;split
 ·exact h' (by assumption)
 ·rfl
theorem gv_f(r:Option D):gv false r=some (.bool false):=(rfl)
theorem gv_s(c:Bool)(x:D):gv c (some x)=some (gw c x):=by cases c<;>rfl
theorem gw_t(x:D):gw true x=x:=(rfl)
theorem gw_f(x:D):gw false x=.bool false:=(rfl)
theorem gw_b(c b:Bool):gw c (.bool b)=.bool (c && b):=by cases c<;>rfl
theorem og_v(G:Gf)(ρ:List D)(c:Bool)(o:PO)(es:List SE)(t:ST):ogT (some c) G o es t ρ=opT (gv c (poT o (evE ρ es))) G t ρ:=by cases c<;>rfl
theorem gd_c(G:Gf)(ρ:List D)(c:Bool)(a b:ST):gdT (some c) G a b ρ=if c=true then gdT (some true) G a b ρ else gdT (some false) G a b ρ:=by cases c<;>rfl
theorem pv_eql(k:IntKind)(a b:Int):evPO (.bin .eql) [.int k a,.int k b]=some (.bool (decide (a=b))):=by rw[po_bi];rfl
theorem pv_neq(k:IntKind)(a b:Int):evPO (.bin .neq) [.int k a,.int k b]=some (.bool (!decide (a=b))):=by rw[po_bi];rfl
theorem pv_lss(k:IntKind)(a b:Int):evPO (.bin .lss) [.int k a,.int k b]=some (.bool (decide (a < b))):=by rw[po_bi];rfl
theorem pv_leq(k:IntKind)(a b:Int):evPO (.bin .leq) [.int k a,.int k b]=some (.bool (decide (a≤b))):=by rw[po_bi];rfl
theorem pv_gtr(k:IntKind)(a b:Int):evPO (.bin .gtr) [.int k a,.int k b]=some (.bool (decide (b < a))):=by rw[po_bi];rfl
theorem pv_geq(k:IntKind)(a b:Int):evPO (.bin .geq) [.int k a,.int k b]=some (.bool (decide (b≤a))):=by rw[po_bi];rfl
theorem pv_add(k:IntKind)(a b:Int):evPO (.bin .add) [.int k a,.int k b]=some (.int k (k.wrap (a+b))):=by rw[po_bi];rfl
theorem pv_sql(a b:ByteArray):evPO (.bin .eql) [.str a,.str b]=some (.bool (decide (a=b))):=by rw[po_bs];rfl
theorem pv_snq(a b:ByteArray):evPO (.bin .neq) [.str a,.str b]=some (.bool (!decide (a=b))):=by rw[po_bs];rfl
theorem pv_bnq(a b:Bool):evPO (.bib .neq) [.bool a,.bool b]=some (.bool (!decide (a=b))):=(rfl)
attribute [go_sem 2000] pv_eql pv_neq pv_lss pv_leq pv_gtr pv_geq pv_add pv_sql pv_snq pv_bnq
theorem bq1(a b:Bool):(a ||(!a && b))=(a ||b):=by cases a<;>rfl
theorem bq2(a b:Bool):(!a ||(a && b))=(!a ||b):=by cases a<;>rfl
theorem pl_i(k:IntKind)(n:Int):evPO .pl [.int k n]=some (.bool false):=(rfl)
theorem pl_b(b:Bool):evPO .pl [.bool b]=some (.bool false):=(rfl)
attribute [go_sem] pl_i pl_b
section
set_option maxRecDepth 100000
set_option maxHeartbeats 4000000
theorem pl1(n:Int):evPO .pl [.int .i64 n]=some (.bool false):=(rfl)
theorem plb(b:Bool):evPO .pl [.bool b]=some (.bool false):=(rfl)
theorem eN_nth{l:List XNode}{i:Nat}{y:XNode}(h:nth l i=some y):evPO (.el 3) [dNodes l,.int .i64 (i:Int)]=some (.list 0 false [eNode y]):=by
 rw[po_eln,nth_map,h];rfl
theorem kid_nd{l:List XNode}{y:XNode}(hs:szl eNode l≤mg)(h:y∈l):y.kids.length≤mg∧szl eNode y.kids≤mg:=by
 have a1:=szl_mem eNode h;rw[szC_node]at a1;refine⟨?_,by omega⟩;simp only[szl]at a1 hs;omega
theorem keys_le{n:XSchema}(hn:szC (eSchema n)≤mg):n.keys.length≤mg:=by
 rw[szC_schema]at hn;simp only[szl]at hn;omega
theorem q251{n:XSchema}{l:List XNode}{v:ByteArray}{key:List ByteArray}(hn:szC (eSchema n)≤mg)(hl:szl eNode l≤mg)(hk:key.length≤mg) :
  G 251 (eSchema n++[dNodes l,.str v,dStrs key])=some (0,[.int .i64 (ofI (idxS n l v key))]):=by
 have hll:l.length≤mg:=by simp only[szl]at hl;omega
 have hkl:=keys_le hn;have h:=gl_find0 (b:=lB G l251_0) l (fun i=>(0,[dNodes l,.str v,dStrs key,.int .i64 (i:Int)]++eSchema n)) (fun y=>decide (y.name=n.name) && (!(decide (n.kind=4) && !decide (y.value=v)) && (!decide (n.kind=2) ||(!lessL (keyOf n y).1 key && !lessL key (keyOf n y).1))))
  (1,[dNodes l,.str v,dStrs key,.int .i64 l.length,.bool false]++eSchema n) (fun i y=>(0,[.int .i64 (i:Int)])) (by
  intro i y hy;have hi:=nth_len hy;have hw:=wj hi hll;have e1:=eN_nth hy;have f1:=q244 (n:=n) (x:=y) hkl (kid_nd hl (nth_in hy)).1;have f2:=q248 (a:=(keyOf n y).1) (b:=key) (keyOf_len hkl) hk;have f3:=q248 (a:=key) (b:=(keyOf n y).1) hk (keyOf_len hkl);simp only[eSchema_eq,eNode_eq,List.cons_append,List.nil_append]at f1;generalize (keyOf n y).1=ky at *;generalize lessL ky key=a1 at *;generalize lessL key ky=a2 at *;by_cases c1:y.name=n.name
  ·rw[c1]at f1;by_cases c4:n.kind=4
   ·have c2:¬(4:Int)=2:=by decide
    rw[c4]at f1;by_cases cv:y.value=v
    ·simp only[go_sem,lB_,l251_0,eSchema_eq n,hi,e1,eNode_eq y,c1,c4,cv,c2]
    ·simp only[go_sem,lB_,l251_0,eSchema_eq n,hi,e1,eNode_eq y,hw,c1,c4,cv,c2]
   ·by_cases c2:n.kind=2
    ·have c24:¬(2:Int)=4:=by decide
     rw[c2]at f1;cases a1<;>cases a2<;>simp only[go_sem,lB_,l251_0,eSchema_eq n,hi,e1,eNode_eq y,f2,f3,plb,hw,c1,c2,c24,f1]
    ·simp only[go_sem,lB_,l251_0,eSchema_eq n,hi,e1,eNode_eq y,c1,c2,c4]
  ·simp only[go_sem,lB_,l251_0,eSchema_eq n,hi,e1,eNode_eq y,hw,c1]
  ) (by simp only[go_sem,lB_,l251_0,eSchema_eq n,Nat.lt_irrefl])
 rw[n0]at h;simp only[eSchema_eq n,List.cons_append,List.nil_append]at h;refine gOf s251 (by rw[eSchema_eq];rfl) ?_;simp only[go_sem,t251,eSchema_eq n,h];unfold idxS;generalize hf:fnd _ l 0=o;cases o with
 |none=>simp only[go_sem,ofI]
 |some j=>
  obtain⟨y,h1,_⟩:=fnd_nth0 hf;simp only[go_sem,h1,ofI]
theorem q252{n:XSchema}{l:List XNode}{x:XNode}(hn:szC (eSchema n)≤mg)(hl:szl eNode l≤mg)(hx:x.kids.length≤mg) :
  G 252 (eSchema n++[dNodes l]++eNode x)=some (0,[.int .i64 (ofI (ixS n l x))]):=by
 have hkl:=keys_le hn;have f1:=q244 (n:=n) (x:=x) hkl hx;have f2:=q251 (n:=n) (l:=l) (v:=x.value) (key:=(keyOf n x).1) hn hl (keyOf_len hkl);simp only[eSchema_eq,eNode_eq,List.cons_append,List.nil_append]at f1 f2;refine gOf s252 (by rw[eSchema_eq,eNode_eq];rfl) ?_;unfold ixS;simp only[go_sem,t252,eSchema_eq n,eNode_eq x,f1,f2,pl1]
theorem nth_ext:∀{a b:List ByteArray},a.length=b.length→(∀j x,nth a j=some x→nth b j=some x)→a=b
 |[],[],_,_=>rfl
 |x::a,y::b,h,hh=>by
  have h0:=hh 0 x rfl;cases h0;rw[nth_ext (a:=a) (b:=b) (by simpa using h) fun j z hz=>hh (j+1) z hz]
theorem allI_eq{a b:List ByteArray}(h:a.length=b.length):allI (fun i e=>decide (nth b i=some e)) 0 a=decide (a=b):=by
 rw[Bool.eq_iff_iff,allI_iff];simp only[Nat.zero_add,decide_eq_true_eq];exact⟨fun hh=>nth_ext h hh,fun e j x hx=>e▸hx⟩
theorem q100{a b:List ByteArray}(ha:a.length≤mg):G 100 [dStrs a,dStrs b]=some (0,[.bool (decide (a=b))]):=by
 refine gOf s100 rfl ?_;by_cases hl:a.length=b.length
 ·have hl':(a.length:Int)=(b.length:Int):=by omega
  have h:=gl_allI (b:=lB G l100_0) a (fun i=>(0,[dStrs a,dStrs b,.int .i64 a.length,.int .i64 (i:Int)])) (fun i e=>decide (nth b i=some e)) (1,[dStrs a,dStrs b,.int .i64 a.length,.int .i64 a.length,.bool false]) (0,[.bool false]) (by
   intro i e hn;have hi:=nth_len hn;have hw:=wj hi ha;have h2:nth b i=some (b[i]'(by omega)):=nth_lt (by omega);rw[h2];generalize (b[i]'(by omega))=f at *;by_cases c:e=f
   ·subst c;simp only[go_sem,lB_,l100_0,hi,hw,nth_map,hn,h2,eStr]
   ·have c':¬f=e:=fun h=>c h.symm;simp only[go_sem,lB_,l100_0,hi,nth_map,hn,h2,eStr,c,c',Option.some.injEq]) (by simp only[go_sem,lB_,l100_0,Nat.lt_irrefl]) a.length 0 (by omega)
  rw[n0,List.drop_zero,allI_eq hl]at h;rw[hl]at h;cases hd:decide (a=b)<;>rw[hd]at h<;>simp only[go_sem]at h<;>simp only[go_sem,t100,hl',h]
 ·have hl':¬(a.length:Int)=(b.length:Int):=by omega
  have hab:¬a=b:=fun h=>hl (by rw[h]);simp only[go_sem,t100,hl',hab]
theorem q328{n:XSchema}{a b:XNode}(hn:szC (eSchema n)≤mg)(ha:a.kids.length≤mg)(hb:b.kids.length≤mg):G 328 (eSchema n++eNode a++eNode b)=some (0,[.bool (sameK n a b)]):=by
 have hkl:=keys_le hn;have f1:=q320 (n:=n) (x:=a) hkl ha;have f2:=q320 (n:=n) (x:=b) hkl hb;have f3:=q100 (a:=(keyOf n a).1) (b:=(keyOf n b).1) (keyOf_len hkl);simp only[eSchema_eq,eNode_eq,List.cons_append,List.nil_append]at f1 f2;refine gOf s328 (by rw[eSchema_eq,eNode_eq,eNode_eq];rfl) ?_;unfold sameK isRow;obtain⟨v2,c2⟩:∃v,decide (n.kind=2)=v:=⟨_,rfl⟩
 obtain⟨v4,c4⟩:∃v,decide (n.kind=4)=v:=⟨_,rfl⟩
 generalize (keyOf n a).1=x at *;generalize (keyOf n b).1=y at *;generalize (keyOf n a).2=u at *;generalize (keyOf n b).2=w at *;cases v2<;>cases v4<;>simp only[go_sem,t328,eSchema_eq n,eNode_eq,c2,c4,f1,f2]
 all_goals cases u<;>cases w<;>simp only[go_sem,f3,plb]
theorem q329{n:XSchema}{l:List XNode}{x:XNode}(hn:szC (eSchema n)≤mg)(hl:szl eNode l≤mg)(hx:x.kids.length≤mg) :
  G 329 (eSchema n++[dNodes l]++eNode x)=some (0,[.int .i64 (ofI (idxI n l x))]):=by
 have hll:l.length≤mg:=by simp only[szl]at hl;omega
 have hkl:=keys_le hn;have h:=gl_find0 (b:=lB G l329_0) l (fun i=>(0,[dNodes l,.int .i64 l.length,.int .i64 (i:Int)]++eSchema n++eNode x)) (fun y=>decide (y.name=n.name) && (decide (ordOf n x y=0) && sameK n x y))
  (1,[dNodes l,.int .i64 l.length,.int .i64 l.length,.bool false]++eSchema n++eNode x) (fun i y=>(0,[.int .i64 (i:Int)])) (by
  intro i y hy;have hi:=nth_len hy;have hw:=wj hi hll;have e1:=eN_nth hy;have hyk:=(kid_nd hl (nth_in hy)).1;have f1:=q326 (n:=n) (a:=x) (b:=y) hkl hx hyk;have f2:=q328 (n:=n) (a:=x) (b:=y) hn hx hyk;simp only[eSchema_eq,eNode_eq,List.cons_append,List.nil_append]at f1 f2;generalize ordOf n x y=o at *;generalize sameK n x y=sk at *;by_cases c1:y.name=n.name
  ·rw[c1]at f1 f2;by_cases co:o=0
   ·subst co;cases sk<;>simp only[go_sem,lB_,l329_0,eSchema_eq n,hi,e1,eNode_eq,f1,f2,hw,c1]
   ·simp only[go_sem,lB_,l329_0,eSchema_eq n,hi,e1,eNode_eq,f1,hw,c1,co]
  ·simp only[go_sem,lB_,l329_0,eSchema_eq n,hi,e1,eNode_eq,hw,c1]
  ) (by simp only[go_sem,lB_,l329_0,eSchema_eq n,eNode_eq x,Nat.lt_irrefl])
 rw[n0]at h;simp only[eSchema_eq n,eNode_eq x,List.cons_append,List.nil_append]at h;refine gOf s329 (by rw[eSchema_eq,eNode_eq];rfl) ?_;simp only[go_sem,t329,eSchema_eq n,eNode_eq x,h];unfold idxI;generalize hf:fnd _ l 0=o;cases o with
 |none=>simp only[go_sem,ofI]
 |some j=>
  obtain⟨y,h1,_⟩:=fnd_nth0 hf;simp only[go_sem,h1,ofI]
theorem k_nn(j:Nat):decide ((j:Int) < 0)=false:=by simp only[decide_eq_false_iff_not];omega
theorem q253_n(M:Nat):∀(s:List XSchema) (a b:List XNode),SizeOf.sizeOf a < M→szl eSchema s≤mg→szl eNode a≤mg→szl eNode b≤mg→Rt isPat matT (dk s) a→
  G 253 [dSchemas s,dNodes a,dNodes b]=some (0,[.bool (partF ixS M s a b)]):=by
 induction M with
 |zero=>intro s a b h;omega
 |succ M ih=>
  intro s a b hz hs ha hb hR;have hal:a.length≤mg:=by simp only[szl]at ha;omega
  have hdk:=dk_le (es:=s);have hdl:(dk s).length≤mg:=by simp only[szl]at hdk hs;omega
  have f0:=q81 hs;have hl:=gl_all (b:=lB G l253_0) a (fun i=>(0,[dNodes a,dNodes b,.int .i64 (i:Int),dSchemas (dk s)])) (fun x=>match pairF ixS s b x with
    |some (n,y)=>partF ixS M n.kids x.kids y.kids
    |none=>false) (1,[dNodes a,dNodes b,.int .i64 a.length,.bool false,dSchemas (dk s)]) (0,[.bool false]) (by
   intro i x hn;have hi:=nth_len hn;have hw:=wj hi hal;have e1:=eN_nth hn;obtain⟨k,n,h1,h2,_,h4⟩:=Rt_mem hR (nth_in hn);have f1:=q82 (l:=dk s) (nm:=x.name) hdl;rw[h1]at f1;have hnz:szC (eSchema n)≤mg:=by have:=szl_mem eSchema (nth_in h2);omega
   have hnk:szl eSchema n.kids≤mg:=Nat.le_trans (skids_sz n) hnz;obtain⟨x1,x2⟩:=kid_nd ha (nth_in hn);have f2:=q252 (n:=n) (l:=b) (x:=x) hnz hb x1;have g1:=po_chk 19 false ((dk s).map eSchema) k (by rw[List.length_map];exact nth_len h2);have g2:=eld19 h2;have hp:pairF ixS s b x=(match ixS n b x with
     |some j=>(match nth b j with
      |some y=>if (decide (n.kind=3) && !decide (y.value=x.value))=true then none else some (n,y)
      |none=>none)
     |none=>none):=by
    unfold pairF;simp only[h1,h2];cases ixS n b x with
    |none=>rfl
    |some j=>cases nth b j<;>rfl
   simp only[eSchema_eq,eNode_eq,List.cons_append,List.nil_append]at f2;rw[hp];cases hix:ixS n b x with
   |none=>
    rw[hix]at f2;simp only[go_sem,lB_,l253_0,hi,e1,eNode_eq,eSchema_eq n,f1,ofI,f2,g1,g2,pl1]
   |some j=>
    obtain⟨y,hy,_⟩:=fnd_nth0 (show fnd _ b 0=some j from hix);have k0:=k_nn j;have e2:=eN_nth hy;obtain⟨y1,y2⟩:=kid_nd hb (nth_in hy);have f3:=ih n.kids x.kids y.kids (by have:=List.sizeOf_lt_of_mem (nth_in hn);have:=XNode.kids_lt1 x;omega) hnk x2 y2 h4;rw[hix]at f2;simp only[hy];by_cases c3:n.kind=3
    ·rw[c3]at f2;by_cases cv:y.value=x.value
     ·cases hr:partF ixS M n.kids x.kids y.kids<;>rw[hr]at f3<;>simp only[go_sem,lB_,l253_0,hi,e1,eNode_eq,eSchema_eq n,f1,ofI,g1,g2,pl1,hw,hr,k0,c3,cv,e2,f3,f2]
     ·simp only[go_sem,lB_,l253_0,hi,e1,eNode_eq,eSchema_eq n,f1,ofI,g1,g2,pl1,k0,c3,cv,e2,f2]
    ·cases hr:partF ixS M n.kids x.kids y.kids<;>rw[hr]at f3<;>simp only[go_sem,lB_,l253_0,hi,e1,eNode_eq,eSchema_eq n,f1,ofI,f2,g1,g2,pl1,hw,hr,k0,c3,e2,f3]
   ) (by simp only[go_sem,lB_,l253_0,Nat.lt_irrefl])
  rw[n0]at hl;refine gOf s253 rfl ?_;simp only[partF];generalize a.all _=r at *;cases r<;>simp only[go_sem]at hl<;>simp only[go_sem,t253,f0,hl]
theorem nplS1(k:Int)(e:XSchema)(b:Bool):evPO .npl [.int .i64 k,.str e.name,.int .i64 e.type.kind,dRanges e.type.ranges,dStrs e.type.names,.str e.type.pattern,.str e.type.path,dStrs e.keys,dStrs e.unique,.str e.default,.bool e.given,.bool e.needed,.bool e.present,.bool e.fixed,.int .i64 e.min,.int .i64 e.max,dExprs e.when,dExprs e.must,dSchemas e.kids,.bool b]=some (.bool false):=(rfl)
theorem q330_n(M:Nat):∀(s:List XSchema) (a b:List XNode),SizeOf.sizeOf a < M→szl eSchema s≤mg→szl eNode a≤mg→szl eNode b≤mg→Rt isPat matT (dk s) a→
  G 330 [dSchemas s,dNodes a,dNodes b]=some (0,[.bool (partF idxI M s a b)]):=by
 induction M with
 |zero=>intro s a b h;omega
 |succ M ih=>
  intro s a b hz hs ha hb hR;have hal:a.length≤mg:=by simp only[szl]at ha;omega
  have hdk:=dk_le (es:=s);have hl:=gl_all (b:=lB G l330_0) a (fun i=>(0,[dSchemas s,dNodes b,dNodes a,.int .i64 a.length,.int .i64 (i:Int)])) (fun x=>match pairF idxI s b x with
    |some (n,y)=>partF idxI M n.kids x.kids y.kids
    |none=>false) (1,[dSchemas s,dNodes b,dNodes a,.int .i64 a.length,.int .i64 a.length,.bool false]) (0,[.bool false]) (by
   intro i x hn;have hi:=nth_len hn;have hw:=wj hi hal;have e1:=eN_nth hn;obtain⟨k,n,h1,h2,_,h4⟩:=Rt_mem hR (nth_in hn);have f1:=q97_1 (l:=s) (nm:=x.name) hs;rw[h1]at f1;simp only[h2,dStrs,List.map_cons,List.map_nil,eStr]at f1;have hnz:szC (eSchema n)≤mg:=by have:=szl_mem eSchema (nth_in h2);omega
   have hnk:szl eSchema n.kids≤mg:=Nat.le_trans (skids_sz n) hnz;obtain⟨x1,x2⟩:=kid_nd ha (nth_in hn);have f2:=q329 (n:=n) (l:=b) (x:=x) hnz hb x1;have hp:pairF idxI s b x=(match idxI n b x with
     |some j=>(match nth b j with
      |some y=>if (decide (n.kind=3) && !decide (y.value=x.value))=true then none else some (n,y)
      |none=>none)
     |none=>none):=by
    unfold pairF;simp only[h1,h2];cases idxI n b x with
    |none=>rfl
    |some j=>cases nth b j<;>rfl
   simp only[eSchema_eq,eNode_eq,List.cons_append,List.nil_append]at f1 f2;have g3:=mkl1 x.name;rw[hp];cases hix:idxI n b x with
   |none=>
    rw[hix]at f2;simp only[go_sem,lB_,l330_0,hi,e1,eNode_eq,f1,g3,ofI,f2,nplS1]
   |some j=>
    obtain⟨y,hy,_⟩:=fnd_nth0 (show fnd _ b 0=some j from hix);have k0:=k_nn j;have e2:=eN_nth hy;obtain⟨y1,y2⟩:=kid_nd hb (nth_in hy);have f3:=ih n.kids x.kids y.kids (by have:=List.sizeOf_lt_of_mem (nth_in hn);have:=XNode.kids_lt1 x;omega) hnk x2 y2 h4;rw[hix]at f2;simp only[hy];by_cases c3:n.kind=3
    ·rw[c3]at f2;by_cases cv:y.value=x.value
     ·cases hr:partF idxI M n.kids x.kids y.kids<;>rw[hr]at f3<;>simp only[go_sem,lB_,l330_0,hi,e1,eNode_eq,f1,g3,ofI,nplS1,hw,hr,k0,c3,cv,e2,f3,f2]
     ·simp only[go_sem,lB_,l330_0,hi,e1,eNode_eq,f1,g3,ofI,nplS1,k0,c3,cv,e2,f2]
    ·cases hr:partF idxI M n.kids x.kids y.kids<;>rw[hr]at f3<;>simp only[go_sem,lB_,l330_0,hi,e1,eNode_eq,f1,g3,ofI,f2,nplS1,hw,hr,k0,c3,e2,f3]
   ) (by simp only[go_sem,lB_,l330_0,Nat.lt_irrefl])
  rw[n0]at hl;refine gOf s330 rfl ?_;simp only[partF];generalize a.all _=r at *;cases r<;>simp only[go_sem]at hl<;>simp only[go_sem,t330,hl]
end
section
set_option maxRecDepth 100000
set_option maxHeartbeats 4000000
theorem gt0e{α:Type}(l:List α):decide ((0:Int) < (l.length:Int))=!l.isEmpty:=by cases l<;>simp
theorem l214_0_ok{n:XSchema}(hs:szC (eSchema n)≤mg) :
  gloop (lB G l214_0) (0,.int .i64 0::eSchema n)=some (if n.keys.all (keyS n.kids)=true then (1,.int .i64 n.keys.length::.bool false::eSchema n) else (0,[.bool false])):=by
 have hz:=hs;rw[szC_schema]at hz;have hkl:n.keys.length≤mg:=by simp only[szl]at hz;omega
 have hcl:n.kids.length≤mg:=by simp only[szl]at hz;omega
 have hl:=gl_all (b:=lB G l214_0) n.keys (fun i=>(0,.int .i64 (i:Int)::eSchema n)) (keyS n.kids) (1,.int .i64 n.keys.length::.bool false::eSchema n) (0,[.bool false]) (by
  intro i e hn;have hi:=nth_len hn;have hw:=wj hi hkl;have f1:=q82 (l:=n.kids) (nm:=e) hcl;clear hs hz;cases hf:sfind n.kids e with
  |none=>
   have hk:keyS n.kids e=false:=by simp only[keyS,kid1,hf]
   rw[hf]at f1;simp +contextual -implicitDefEqProofs only [go_sem,og_v,gv_f,gv_s,gw_b,lB_,l214_0,eSchema_eq n,hi,nth_map,hn,eStr,f1,ofI,hk]
  |some j=>
   obtain⟨x,hj,_⟩:=fnd_nth0 hf;have hk:keyS n.kids e=(decide (x.kind=3) && keyP x):=by simp only[keyS,kid1,hf,hj]
   have k0:decide ((j:Int) < 0)=false:=by simp only[decide_eq_false_iff_not];omega
   rw[hf]at f1;rw[hk,keyP];simp +contextual -implicitDefEqProofs only [go_sem,og_v,gv_s,gw_b,lB_,l214_0,eSchema_eq n,hi,nth_map,hn,eStr,f1,ofI]
   simp +contextual -implicitDefEqProofs only [go_sem,og_v,gv_s,gw_t,gw_b,k0,hj,nth_map,eSchema_eq x,gt0e]
   rw[gd_c];generalize decide (x.kind=3)=v3;generalize x.when.isEmpty=w;generalize x.given=g;generalize decide (x.type.kind=6)=v6;cases v3<;>cases w<;>cases g<;>cases v6<;>simp +contextual -implicitDefEqProofs only [go_sem,hw]) (by simp +contextual -implicitDefEqProofs only [go_sem,lB_,l214_0,eSchema_eq n,Nat.lt_irrefl])
 exact hl
theorem l214_1_ok{n:XSchema}(hs:szC (eSchema n)≤mg) :
  gloop (lB G l214_1) (0,.int .i64 0::eSchema n)=some (if n.unique.all (uniS n.kids)=true then (1,.int .i64 n.unique.length::.bool false::eSchema n) else (0,[.bool false])):=by
 have hz:=hs;rw[szC_schema]at hz;have hkl:n.unique.length≤mg:=by simp only[szl]at hz;omega
 have hcl:n.kids.length≤mg:=by simp only[szl]at hz;omega
 have hl:=gl_all (b:=lB G l214_1) n.unique (fun i=>(0,.int .i64 (i:Int)::eSchema n)) (uniS n.kids) (1,.int .i64 n.unique.length::.bool false::eSchema n) (0,[.bool false]) (by
  intro i e hn;have hi:=nth_len hn;have hw:=wj hi hkl;have f1:=q82 (l:=n.kids) (nm:=e) hcl;clear hs hz;cases hf:sfind n.kids e with
  |none=>
   have hk:uniS n.kids e=false:=by simp only[uniS,kid1,hf]
   rw[hf]at f1;simp +contextual -implicitDefEqProofs only [go_sem,og_v,gv_f,gv_s,gw_b,lB_,l214_1,eSchema_eq n,hi,nth_map,hn,eStr,f1,ofI,hk]
  |some j=>
   obtain⟨x,hj,_⟩:=fnd_nth0 hf;have hk:uniS n.kids e=decide (x.kind=3):=by simp only[uniS,kid1,hf,hj]
   have k0:decide ((j:Int) < 0)=false:=by simp only[decide_eq_false_iff_not];omega
   rw[hf]at f1;rw[hk];simp +contextual -implicitDefEqProofs only [go_sem,og_v,gv_s,gw_b,lB_,l214_1,eSchema_eq n,hi,nth_map,hn,eStr,f1,ofI]
   simp +contextual -implicitDefEqProofs only [go_sem,og_v,gv_s,gw_t,gw_b,k0,hj,eSchema_eq x]
   rw[gd_c];generalize decide (x.kind=3)=v3;cases v3<;>simp +contextual -implicitDefEqProofs only [go_sem,hw]) (by simp +contextual -implicitDefEqProofs only [go_sem,lB_,l214_1,eSchema_eq n,Nat.lt_irrefl])
 exact hl
theorem q214{n:XSchema}(hs:szC (eSchema n)≤mg):G 214 (eSchema n)=some (0,[.bool (listS n)]):=by
 have hz:=hs;rw[szC_schema]at hz;have l0:=l214_0_ok hs;have l1:=l214_1_ok hs;have f1:=q211 n.type;have f2:=q212 (l:=n.keys) (by simp only[szl]at hz;omega);have f3:=q212 (l:=n.unique) (by simp only[szl]at hz;omega);have f4:=q213 n;clear hs hz;unfold listS;rw[eType]at f1;simp only[eSchema_eq n]at l0 l1 f4;refine gOf s214 (by rw[eSchema_eq];rfl) ?_;generalize n.keys.all (keyS n.kids)=r0 at *;generalize n.unique.all (uniS n.kids)=r1 at *;generalize zT n.type=z at *;generalize okKeys n.keys=a at *;generalize okKeys n.unique=b at *;generalize okSize n=o at *;cases r0
 ·simp +contextual -implicitDefEqProofs only [go_sem]at l0
  simp +contextual -implicitDefEqProofs only [go_sem,t214,eSchema_eq n,l0]
 cases r1
 ·simp +contextual -implicitDefEqProofs only [go_sem]at l0
  simp +contextual -implicitDefEqProofs only [go_sem]at l1
  simp +contextual -implicitDefEqProofs only [go_sem,t214,eSchema_eq n,l0,l1]
 simp +contextual -implicitDefEqProofs only [go_sem]at l0
 simp +contextual -implicitDefEqProofs only [go_sem]at l1
 cases z
 ·simp only[go_sem,og_v,gv_f,gv_s,gw_f,gw_b,f1,t214,eSchema_eq n,l0,l1]
 cases hk:n.keys.isEmpty
 rotate_left
 ·simp only[go_sem,og_v,gv_s,gw_t,gw_b,gt0e,f1,t214,eSchema_eq n,l0,l1,hk]
 cases a
 ·simp only[go_sem,og_v,gv_s,gw_t,gw_b,gt0e,f1,f2,t214,eSchema_eq n,l0,l1,hk]
 cases b
 ·simp only[go_sem,og_v,gv_s,gw_t,gw_b,gt0e,f1,f2,f3,t214,eSchema_eq n,l0,l1,hk]
 cases o<;>simp only[go_sem,og_v,gv_s,gw_t,gw_b,gt0e,f1,f2,f3,f4,nstr0,t214,eSchema_eq n,l0,l1,hk]
 generalize n.given=b1;generalize n.needed=b2;generalize n.present=b3;generalize n.fixed=b4;cases b1<;>cases b2<;>cases b3<;>cases b4<;>rfl
end
section
set_option maxRecDepth 100000
set_option maxHeartbeats 4000000
theorem ofI_some(o:Option Nat)(i:Nat):decide (ofI o=(i:Int))=decide (o=some i):=by
 cases o with
 |none=>simp[ofI]
 |some j=>exact decide_eq_decide.2 ⟨fun h=>congrArg some (Int.ofNat.inj h),fun h=>congrArg Int.ofNat (Option.some.inj h)⟩
theorem eld1{d:List XSchema}{j:Nat}{e:XSchema}(h:nth d j=some e):evPO (.eld 19 1 1 true) [dSchemas d,.int .i64 (j:Int)]=some (.list 0 false [eSchema e]):=by
 simp only[evPO,Int.toNat_natCast,nth_map,h,Option.map_some];rw[eSchema_eq];exact if_pos ⟨trivial,by decide,by simp only[List.length_cons];omega,rfl⟩
section
variable {ip:ByteArray→Bool} {mt:ByteArray→ByteArray→Bool} (hP:∀s:ByteArray,s.size≤mg→G 227 [.str s]=some (0,[.bool (ip s)])) (hM:∀p s:ByteArray,p.size≤mg→s.size≤mg→G 236 [.str p,.str s]=some (0,[.bool (mt p s)]))
include hP hM
theorem q239{n:XSchema}{free:Bool}(hs:szC (eSchema n)≤mg):G 239 (eSchema n++[.bool free])=some (0,[.bool (nodeS ip mt n free)]):=by
 have hz:=hs;rw[szC_schema]at hz;have f1:=q202 (s:=n.name) (by omega);have f2:G 210 [dExprs n.when,.int .i64 1]=_:=q210 (m:=1) (by omega);have f3:G 210 [dExprs n.must,.int .i64 3]=_:=q210 (m:=3) (by omega);have f4:=q211 n.type;have f5:=q214 hs;have f6:=q228 hP (t:=n.type) (by omega);have f7:=q213 n;have f8:=q238 hP hM (t:=n.type) (s:=n.default) (by omega) (by omega);clear hs hz hP hM;simp only[eType,eSchema_eq n,List.cons_append,List.nil_append]at f4 f5 f6 f7 f8;refine gOf s239 (by rw[eSchema_eq];rfl) ?_;unfold nodeS headS;generalize isName n.name=h1 at *;generalize areX n.when 1=h2 at *;generalize areX n.must 3=h3 at *;generalize hz_:zT n.type=z at *;generalize hi_:isType ip n.type=it at *;generalize ho_:okSize n=os at *;cases h1
 ·simp +contextual -implicitDefEqProofs only [go_sem,og_v,gv_s,gw_t,gw_b,Bool.and_self_left,f1,len0,nstr0,t239,eSchema_eq n]
 cases h2
 ·simp +contextual -implicitDefEqProofs only [go_sem,og_v,gv_s,gw_t,gw_b,Bool.and_self_left,f1,f2,len0,nstr0,t239,eSchema_eq n]
 cases h3
 ·simp +contextual -implicitDefEqProofs only [go_sem,og_v,gv_s,gw_t,gw_b,Bool.and_self_left,f1,f2,f3,len0,nstr0,t239,eSchema_eq n]
 have hN:(n.keys.isEmpty && n.unique.isEmpty && decide (n.default.size=0) && !n.given && !n.fixed && decide (n.min=0) && decide (n.max=0))=noneS n:=by simp only[noneS,Bool.and_assoc]
 by_cases k1:n.kind=1
 ·have k2:bodyS ip mt n free=(noneS n && (!n.needed && z)):=by simp only[bodyS,k1,hz_];rfl
  rw[k2];simp +contextual -implicitDefEqProofs only [go_sem,og_v,gv_s,gw_t,gw_b,Bool.and_self_left,f1,f2,f3,len0,nstr0,t239,eSchema_eq n,k1]
  rw[hN];generalize noneS n=v at *;clear hN;obtain⟨w,hw⟩:∃w,n.needed=w:=⟨_,rfl⟩
  cases v<;>cases w<;>simp only[go_sem,f4,hw]
 by_cases k2:n.kind=2
 ·have e:bodyS ip mt n free=listS n:=by simp only[bodyS,k2,if_true];rfl
  rw[e];rw[k2]at f5;simp +contextual -implicitDefEqProofs only [go_sem,og_v,gv_s,gw_t,gw_b,Bool.and_self_left,f1,f2,f3,len0,nstr0,t239,eSchema_eq n,k2,f5]
 by_cases k3:n.kind=3
 ·obtain⟨g,hL⟩:∃g,(n.keys.isEmpty && n.unique.isEmpty && decide (n.min=0) && decide (n.max=0) && !n.present && n.kids.isEmpty)=g:=⟨_,rfl⟩
  have e:leafS ip n=(g && it):=by simp only[leafS,← hL,Bool.and_assoc,hi_]
  have e2:bodyS ip mt n free=if n.given=true then (g && it) && (free && (!n.needed && (n.when.isEmpty && isVal ip mt n.type n.default))) else (g && it) && decide (n.default.size=0):=by
   simp only[bodyS,k3,e];rfl
  rw[e2];generalize isVal ip mt n.type n.default=iv at *;obtain⟨gi,hg⟩:∃w,n.given=w:=⟨_,rfl⟩
  obtain⟨ne,hn⟩:∃w,n.needed=w:=⟨_,rfl⟩
  obtain⟨we,hw⟩:∃w,n.when.isEmpty=w:=⟨_,rfl⟩
  rw[hg];simp +contextual -implicitDefEqProofs only [go_sem,og_v,gv_s,gw_t,gw_b,Bool.and_self_left,f1,f2,f3,len0,nstr0,t239,eSchema_eq n,k3]
  rw[hL];clear hL e e2;cases g
  ·cases gi<;>simp +contextual -implicitDefEqProofs only [go_sem,og_v,gv_f,gv_s,gw_f,gw_b,nstr0,hg]
  cases it
  ·cases gi<;>simp +contextual -implicitDefEqProofs only [go_sem,og_v,gv_f,gv_s,gw_f,gw_b,nstr0,f6,hg]
  cases gi
  ·simp +contextual -implicitDefEqProofs only [go_sem,og_v,gv_s,gw_b,nstr0,f6,hg]
  cases free
  ·simp +contextual -implicitDefEqProofs only [go_sem,og_v,gv_f,gv_s,gw_f,gw_b,f6,hg]
  cases ne
  rotate_left
  ·simp +contextual -implicitDefEqProofs only [go_sem,og_v,gv_f,gv_s,gw_f,gw_b,f6,hg,hn]
  cases we<;>simp +contextual -implicitDefEqProofs only [go_sem,og_v,gv_s,gw_t,gw_b,len0,f6,hg,hn,hw,f8]
 by_cases k4:n.kind=4
 ·obtain⟨g,hL⟩:∃g,(n.keys.isEmpty && n.unique.isEmpty && decide (n.default.size=0) && !n.given && !n.fixed && !n.needed && !n.present && n.kids.isEmpty)=g:=⟨_,rfl⟩
  have e:bodyS ip mt n free=(g && (os && it)):=by simp only[bodyS,k4,← hL,manyS,Bool.and_assoc,hi_,ho_];rfl
  rw[e];rw[k4]at f7;simp +contextual -implicitDefEqProofs only [go_sem,og_v,gv_s,gw_t,gw_b,Bool.and_self_left,f1,f2,f3,len0,nstr0,t239,eSchema_eq n,k4]
  rw[hL];clear hL e;cases g
  ·simp +contextual -implicitDefEqProofs only [go_sem]
  cases os<;>simp +contextual -implicitDefEqProofs only [go_sem,og_v,gv_s,gw_b,f7,f6]
 by_cases k5:n.kind=5
 ·have e:bodyS ip mt n free=(noneS n && (!n.present && (n.must.isEmpty && z))):=by simp only[bodyS,k5,hz_];rfl
  rw[e];simp +contextual -implicitDefEqProofs only [go_sem,og_v,gv_s,gw_t,gw_b,Bool.and_self_left,f1,f2,f3,len0,nstr0,t239,eSchema_eq n,k5]
  rw[hN];generalize noneS n=v at *;clear hN;obtain⟨w,hw⟩:∃w,n.present=w:=⟨_,rfl⟩
  obtain⟨u,hu⟩:∃w,n.must.isEmpty=w:=⟨_,rfl⟩
  cases v<;>cases w<;>cases u<;>simp only[go_sem,f4,hw,hu]
 by_cases k6:n.kind=6
 ·have e:bodyS ip mt n free=(noneS n && (!n.present && (!n.needed && (n.must.isEmpty && z)))):=by simp only[bodyS,k6,hz_];rfl
  rw[e];simp +contextual -implicitDefEqProofs only [go_sem,og_v,gv_s,gw_t,gw_b,Bool.and_self_left,f1,f2,f3,len0,nstr0,t239,eSchema_eq n,k6]
  rw[hN];generalize noneS n=v at *;clear hN;obtain⟨w,hw⟩:∃w,n.present=w:=⟨_,rfl⟩
  obtain⟨u,hu⟩:∃w,n.must.isEmpty=w:=⟨_,rfl⟩
  obtain⟨ne,hn⟩:∃w,n.needed=w:=⟨_,rfl⟩
  cases v<;>cases w<;>cases u<;>cases ne<;>simp only[go_sem,f4,hw,hu,hn]
 have e:bodyS ip mt n free=false:=by simp only[bodyS,k1,k2,k3,k4,k5,k6,if_false]
 rw[e];simp +contextual -implicitDefEqProofs only [go_sem,og_v,gv_s,gw_t,gw_b,Bool.and_self_left,f1,f2,f3,len0,nstr0,t239,eSchema_eq n,k1,k2,k3,k4,k5,k6]
theorem q240_n(m:Nat):∀(l:List XSchema) (k:Int) (free:Bool) (deep:Nat),SizeOf.sizeOf l < m→szl eSchema l≤mg→deep+dpS l≤2 * mg→
  G 240 [dSchemas l,.int .i64 k,.bool free,.int .i64 (deep:Int)]=some (0,[.bool (kidS ip mt m l k free deep)]):=by
 induction m with
 |zero=>intro l k free deep h;omega
 |succ m ih=>
  intro l k free deep hz hs hd;have hl:l.length≤mg:=by simp only[szl]at hs;omega
  have f0:=q81 hs;have hdl:(dk l).length≤mg:=by have:=dk_le (es:=l);simp only[szl]at this hs;omega
  have h1:=gl_allI (b:=lB G l240_0) l (fun i=>(0,[dSchemas l,.int .i64 k,.bool free,.int .i64 (deep:Int),.int .i64 (i:Int),dSchemas (dk l)])) (fun i n=>decide (sfind l n.name=some i) && (decide (decide (k=5)=decide (n.kind=6)) && (nodeS ip mt n free && kidS ip mt m n.kids n.kind (belowS n free) (deep+1))))
   (1,[dSchemas l,.int .i64 k,.bool free,.int .i64 (deep:Int),.int .i64 l.length,.bool false,dSchemas (dk l)]) (0,[.bool false]) (by
   intro i n hn;have hi:=nth_len hn;have hw:=wj hi hl;have hm:=nth_in hn;have hnz:szC (eSchema n)≤mg:=by have:=szl_mem eSchema hm;omega
   have f1:=q82 (l:=l) (nm:=n.name) hl;have f2:=q239 hP hM (n:=n) (free:=free) hnz;have f3:=ih n.kids n.kind (belowS n free) (deep+1) (by have:=List.sizeOf_lt_of_mem hm;have:=XSchema.kids_lt1 n;omega) (Nat.le_trans (skids_sz n) hnz) (by have:=(dpS_iff l _).1 (Nat.le_refl _) n hm;omega);have e1:=ofI_some (sfind l n.name) i;have e2:IntKind.i64.wrap ((deep:Int)+1)=((deep+1:Nat):Int):=by rw[wrap_i64 (by simp only[mg]at hd;omega)];omega
   have hB:(free && n.when.isEmpty && !decide (n.kind=6))=belowS n free:=by simp only[belowS,Bool.and_assoc]
   simp only[eSchema_eq n,List.cons_append,List.nil_append]at f2;clear ih hP hM hs hz hd hnz f0;rw[← hB]at f3 ⊢;clear hB;generalize nodeS ip mt n free=ns at *;generalize kidS ip mt m n.kids n.kind (free && n.when.isEmpty && !decide (n.kind=6)) (deep+1)=ks at *;generalize decide (sfind l n.name=some i)=si at *;obtain⟨di,hdi⟩:∃b,decide (decide (k=5)=decide (n.kind=6))=b:=⟨_,rfl⟩
   rw[hdi];cases si
   ·simp +contextual -implicitDefEqProofs only [go_sem,og_v,gv_f,gv_s,gw_t,gw_f,gw_b,Bool.and_self_left,lB_,l240_0,hi,nth_map,hn,eSchema_eq n,len0,f1,e1]
   cases di
   ·simp +contextual -implicitDefEqProofs only [go_sem,og_v,gv_f,gv_s,gw_t,gw_f,gw_b,Bool.and_self_left,lB_,l240_0,hi,nth_map,hn,eSchema_eq n,len0,hdi,f1,e1]
   cases ns
   ·simp +contextual -implicitDefEqProofs only [go_sem,og_v,gv_f,gv_s,gw_t,gw_f,gw_b,Bool.and_self_left,lB_,l240_0,hi,nth_map,hn,eSchema_eq n,len0,hdi,f1,e1,e2,f2]
   cases ks<;>simp +contextual -implicitDefEqProofs only [go_sem,og_v,gv_s,gw_t,gw_b,Bool.and_self_left,lB_,l240_0,hi,hw,nth_map,hn,eSchema_eq n,len0,hdi,f1,e1,e2,f2,f3]
   ) (by simp only[go_sem,lB_,l240_0,Nat.lt_irrefl]) l.length 0 (by omega)
  have h2:=gl_allI (b:=lB G l240_1) (dk l) (fun i=>(0,[dSchemas l,.int .i64 (deep:Int),.int .i64 (i:Int),dSchemas (dk l)])) (fun i n=>decide (sfind (dk l) n.name=some i))
   (1,[dSchemas l,.int .i64 (deep:Int),.int .i64 (dk l).length,.bool false,dSchemas (dk l)]) (0,[.bool false]) (by
   intro i n hn;have hi:=nth_len hn;have hw:=wj hi hdl;have f1:=q82 (l:=dk l) (nm:=n.name) hdl;have e1:=ofI_some (sfind (dk l) n.name) i;have g1:=po_chk 19 false ((dk l).map eSchema) i (by rw[List.length_map];exact hi);have g2:=eld1 hn;clear ih hP hM hs hz hd f0;generalize decide (sfind (dk l) n.name=some i)=si at *;cases si<;>simp +contextual -implicitDefEqProofs only [go_sem,lB_,l240_1,hi,hw,eSchema_eq n,f1,e1,g1,g2]
   ) (by simp only[go_sem,lB_,l240_1,Nat.lt_irrefl]) (dk l).length 0 (by omega)
  rw[n0,List.drop_zero]at h1 h2;have hd8:decide ((deep:Int)≤8)=decide (deep≤8):=decide_eq_decide.2 (by omega);refine gOf s240 rfl ?_;rw[kidS];generalize allI _ 0 l=a1 at *;generalize allI _ 0 (dk l)=a2 at *;clear ih hP hM;cases a1
  ·simp only[go_sem]at h1;simp +contextual -implicitDefEqProofs only [go_sem,t240,f0,h1]
  cases a2
  ·simp only[go_sem]at h1;simp only[go_sem]at h2;simp +contextual -implicitDefEqProofs only [go_sem,t240,f0,h1,h2]
  simp only[go_sem]at h1;simp only[go_sem]at h2;simp +contextual -implicitDefEqProofs only [go_sem,og_v,gv_s,gw_t,gw_b,bq1,t240,f0,h1,h2,hd8,len0]
theorem q241{l:List XSchema}(hs:szl eSchema l≤mg):G 241 [dSchemas l]=some (0,[.bool (isSch ip mt l)]):=by
 obtain⟨r,h1,h2⟩:=q201 hs (x:=60) (by omega) (by omega);have h3:=q240_n hP hM (SizeOf.sizeOf l+1) l 0 true 1 (Nat.lt_succ_self _) hs (by have:=dpS_le (l:=l);simp only[mg]at *;omega);rw[n1]at h3;have hr:decide (0≤r)=decide (cnSchema l≤60):=by
  apply decide_eq_decide.2
  unfold LftSchema at h2;omega
 clear hP hM h2;refine gOf s241 rfl ?_;unfold isSch;generalize kidS ip mt (SizeOf.sizeOf l+1) l 0 true 1=k at *;generalize decide (cnSchema l≤60)=c at *;cases c<;>simp +contextual -implicitDefEqProofs only [go_sem,og_v,gv_s,gw_b,t241,h1,hr,h3]
end
end
section
set_option maxRecDepth 100000
set_option maxHeartbeats 4000000
theorem gt_two{α β:Type}(a:List α)(b:List β)(ha:a.length≤mg)(hb:b.length≤mg):decide ((0:Int) < IntKind.i64.wrap ((a.length:Int)+(b.length:Int)))=!(a.isEmpty && b.isEmpty):=by
 rw[wrap_i64 (by simp only[mg]at ha hb;omega)];cases a<;>cases b<;>simp<;>omega
theorem ge_one{α:Type}(a:List α):decide ((1:Int)≤(a.length:Int))=!a.isEmpty:=by cases a<;>simp;omega
section
variable {ip:ByteArray→Bool} {mt:ByteArray→ByteArray→Bool} (hP:∀s:ByteArray,s.size≤mg→G 285 [.str s]=some (0,[.bool (ip s)])) (hM:∀p s:ByteArray,p.size≤mg→s.size≤mg→G 310 [.str p,.str s]=some (0,[.bool (mt p s)]))
include hP hM
theorem q313{n:XSchema}(hs:szC (eSchema n)≤mg):G 313 (eSchema n)=some (0,[.bool (nodeI ip mt n)]):=by
 have hz:=hs;rw[szC_schema]at hz;have f1:=q261 (s:=n.name) (by omega);have f2:G 269 [dExprs n.when,.int .i64 1]=_:=q269 (m:=1) (by omega);have f3:G 269 [dExprs n.must,.int .i64 3]=_:=q269 (m:=3) (by omega);have f4:=q270 n.type;have f5:=q272 n;have f6:=q286 hP (t:=n.type) (by omega);have f7:=q312 hP hM (t:=n.type) (s:=n.default) (by omega) (by omega);have f8:=q92 n.kind;have hkl:n.keys.length≤mg:=by simp only[szl]at hz;omega
 have hul:n.unique.length≤mg:=by simp only[szl]at hz;omega
 have g1:=gt_two n.keys n.unique hkl hul;have g2:=q257 (l:=n.keys) hkl;have g3:=q257 (l:=n.unique) hul;have g4:=q271 (l:=n.keys) (by omega);have g5:=q271 (l:=n.unique) (by omega);have g6:decide ((n.keys.length:Int)≤3)=decide (n.keys.length≤3):=decide_eq_decide.2 (by omega);have g7:decide ((n.unique.length:Int)≤3)=decide (n.unique.length≤3):=decide_eq_decide.2 (by omega);clear hs hz hP hM hkl hul;simp only[eType,eSchema_eq n,List.cons_append,List.nil_append]at f4 f5 f6 f7;refine gOf s313 (by rw[eSchema_eq];rfl) ?_;unfold nodeI headS;generalize isName n.name=h1 at *;generalize areX n.when 1=h2 at *;generalize areX n.must 3=h3 at *;generalize hz_:zT n.type=z at *;generalize hi_:isType ip n.type=it at *;generalize ho_:okSize n=os at *;cases h1
 ·simp +contextual -implicitDefEqProofs only [go_sem,og_v,gv_s,gw_b,f1,t313,eSchema_eq n]
 cases h2
 ·simp +contextual -implicitDefEqProofs only [go_sem,og_v,gv_s,gw_b,f1,f2,t313,eSchema_eq n]
 cases h3
 ·simp +contextual -implicitDefEqProofs only [go_sem,og_v,gv_s,gw_b,f1,f2,f3,t313,eSchema_eq n]
 by_cases k1:n.kind=1
 ·have f8:G 92 [.int .i64 1]=some (0,[.bool true]):=q92 1;have hb:badI n=(!z ||!(n.keys.isEmpty && n.unique.isEmpty) ||(!decide (n.default.size=0) ||n.given ||n.fixed) ||n.needed ||(!decide (n.min=0) ||!decide (n.max=0))):=by simp[badI,k1,hz_,isDt,inB,Bool.or_assoc]
  have hc:bodyI ip mt n=true:=by simp[bodyI,k1]
  rw[hb,hc];simp +contextual -implicitDefEqProofs only [go_sem,og_v,gv_s,gw_t,gw_b,Bool.and_self_left,bq1,bq2,Bool.not_not,g2_t,g2_f,f1,f2,f3,nstr0,t313,eSchema_eq n,f4,g1,k1]
  generalize (!z ||!(n.keys.isEmpty && n.unique.isEmpty) ||(!decide (n.default.size=0) ||n.given ||n.fixed) ||n.needed ||(!decide (n.min=0) ||!decide (n.max=0)))=F at *;clear hb hc;cases F<;>simp +contextual -implicitDefEqProofs only [go_sem,og_v,gv_f,gv_s,gw_f,gw_b,g2_f,f8]
 by_cases k2:n.kind=2
 ·have f8:G 92 [.int .i64 2]=some (0,[.bool true]):=q92 2;rw[k2]at f5;have hb:badI n=(!z ||(!decide (n.default.size=0) ||n.given ||n.fixed) ||n.needed ||n.present):=by simp[badI,k2,hz_,isDt,inB,Bool.or_assoc]
  have hc:bodyI ip mt n=(!n.keys.isEmpty && (okKeysI n.keys && (okKeysI n.unique && os))):=by simp[bodyI,k2,ho_]
  rw[hb,hc];simp +contextual -implicitDefEqProofs only [go_sem,og_v,gv_f,gv_s,gw_f,gw_b,Bool.and_self_left,bq1,bq2,Bool.not_not,g2_t,g2_f,f1,f2,f3,nstr0,t313,eSchema_eq n,f4,k2]
  generalize (!z ||(!decide (n.default.size=0) ||n.given ||n.fixed) ||n.needed ||n.present)=F at *;clear hb hc;unfold okKeysI;generalize decide (n.keys.length≤3)=c1 at *;generalize decide (n.unique.length≤3)=c2 at *;generalize difS n.keys=c3 at *;generalize difS n.unique=c4 at *;generalize n.keys.all isName=c5 at *;generalize n.unique.all isName=c6 at *;obtain⟨ke,hm⟩:∃b,n.keys.isEmpty=b:=⟨_,rfl⟩
  rw[hm];cases F
  rotate_left
  ·simp +contextual -implicitDefEqProofs only [go_sem]
  cases ke
  rotate_left
  ·simp +contextual -implicitDefEqProofs only [go_sem,og_v,gv_f,gv_s,gw_f,gw_b,g2_f,f8,ge_one,hm]
  cases c1
  ·simp +contextual -implicitDefEqProofs only [go_sem,og_v,gv_f,gv_s,gw_t,gw_f,gw_b,g2_f,f8,ge_one,hm,g6]
  cases c3
  ·simp +contextual -implicitDefEqProofs only [go_sem,og_v,gv_f,gv_s,gw_t,gw_f,gw_b,g2_f,f8,ge_one,hm,g6,g2]
  cases c5
  ·simp +contextual -implicitDefEqProofs only [go_sem,og_v,gv_f,gv_s,gw_t,gw_f,gw_b,g2_f,f8,ge_one,hm,g6,g2,g4]
  cases c2
  ·simp +contextual -implicitDefEqProofs only [go_sem,og_v,gv_f,gv_s,gw_t,gw_f,gw_b,g2_f,f8,ge_one,hm,g6,g2,g4,g7]
  cases c4
  ·simp +contextual -implicitDefEqProofs only [go_sem,og_v,gv_f,gv_s,gw_t,gw_f,gw_b,g2_f,f8,ge_one,hm,g6,g2,g4,g7,g3]
  cases c6
  ·simp +contextual -implicitDefEqProofs only [go_sem,og_v,gv_f,gv_s,gw_t,gw_f,gw_b,g2_f,f8,ge_one,hm,g6,g2,g4,g7,g3,g5]
  cases os<;>simp +contextual -implicitDefEqProofs only [go_sem,og_v,gv_f,gv_s,gw_t,gw_f,gw_b,g2_f,f8,ge_one,hm,g6,g2,g4,g7,g3,g5,f5]
 by_cases k3:n.kind=3
 ·have f8:G 92 [.int .i64 3]=some (0,[.bool true]):=q92 3;have hb:badI n=(!(n.keys.isEmpty && n.unique.isEmpty) ||n.present ||(!decide (n.min=0) ||!decide (n.max=0)) ||!n.kids.isEmpty):=by simp[badI,k3,hz_,isDt,inB,Bool.or_assoc]
  have hc:bodyI ip mt n=(it && (!(n.given && (n.needed ||!n.when.isEmpty)) && (if n.given=true then isVal ip mt n.type n.default else decide (n.default.size=0)))):=by simp[bodyI,k3,hi_]
  rw[hb,hc];simp +contextual -implicitDefEqProofs only [go_sem,og_v,gv_s,gw_t,gw_b,Bool.and_self_left,bq1,bq2,Bool.not_not,g2_t,g2_f,f1,f2,f3,nstr0,t313,eSchema_eq n,g1,k3]
  generalize (!(n.keys.isEmpty && n.unique.isEmpty) ||n.present ||(!decide (n.min=0) ||!decide (n.max=0)))=F at *;clear hb hc;generalize isVal ip mt n.type n.default=iv at *;obtain⟨ke,hm⟩:∃b,n.kids.isEmpty=b:=⟨_,rfl⟩
  obtain⟨gi,hg⟩:∃b,n.given=b:=⟨_,rfl⟩
  obtain⟨ne,hn⟩:∃b,n.needed=b:=⟨_,rfl⟩
  obtain⟨we,hw⟩:∃b,n.when.isEmpty=b:=⟨_,rfl⟩
  rw[hm,hg,hn,hw];cases F
  rotate_left
  ·simp +contextual -implicitDefEqProofs only [go_sem]
  cases ke
  ·simp +contextual -implicitDefEqProofs only [go_sem,og_v,gv_f,gv_s,gw_t,gw_f,gw_b,g2_f,gt0e,f8,hm]
  cases it
  ·simp +contextual -implicitDefEqProofs only [go_sem,og_v,gv_f,gv_s,gw_t,gw_f,gw_b,g2_t,g2_f,gt0e,f8,hm,f6]
  cases gi
  ·simp +contextual -implicitDefEqProofs only [go_sem,og_v,gv_f,gv_s,gw_t,gw_f,gw_b,g2_t,g2_f,nstr0,gt0e,f8,hm,f6]
  cases ne
  rotate_left
  ·simp +contextual -implicitDefEqProofs only [go_sem,og_v,gv_f,gv_s,gw_t,gw_f,gw_b,g2_t,g2_f,gt0e,f8,hm,f6]
  cases we
  ·simp +contextual -implicitDefEqProofs only [go_sem,og_v,gv_f,gv_s,gw_t,gw_f,gw_b,g2_t,g2_f,gt0e,f8,hm,f6,hw]
  cases iv<;>simp +contextual -implicitDefEqProofs only [go_sem,og_v,gv_f,gv_s,gw_t,gw_f,gw_b,g2_t,g2_f,nstr0,gt0e,f8,hm,f6,hw,f7]
 by_cases k4:n.kind=4
 ·have f8:G 92 [.int .i64 4]=some (0,[.bool true]):=q92 4;rw[k4]at f5;have hb:badI n=(!(n.keys.isEmpty && n.unique.isEmpty) ||(!decide (n.default.size=0) ||n.given ||n.fixed) ||n.needed ||n.present ||!n.kids.isEmpty):=by simp[badI,k4,hz_,isDt,inB,Bool.or_assoc]
  have hc:bodyI ip mt n=(it && os):=by simp[bodyI,k4,hi_,ho_]
  rw[hb,hc];simp +contextual -implicitDefEqProofs only [go_sem,og_v,gv_s,gw_t,gw_b,Bool.and_self_left,bq1,bq2,Bool.not_not,g2_t,g2_f,f1,f2,f3,nstr0,t313,eSchema_eq n,g1,k4]
  generalize (!(n.keys.isEmpty && n.unique.isEmpty) ||(!decide (n.default.size=0) ||n.given ||n.fixed) ||n.needed ||n.present)=F at *;clear hb hc;obtain⟨ke,hm⟩:∃b,n.kids.isEmpty=b:=⟨_,rfl⟩
  rw[hm];cases F
  rotate_left
  ·simp +contextual -implicitDefEqProofs only [go_sem]
  cases ke
  ·simp +contextual -implicitDefEqProofs only [go_sem,og_v,gv_f,gv_s,gw_t,gw_f,gw_b,g2_f,gt0e,f8,hm]
  cases it
  ·simp +contextual -implicitDefEqProofs only [go_sem,og_v,gv_f,gv_s,gw_t,gw_f,gw_b,g2_f,gt0e,f8,hm,f6]
  cases os<;>simp +contextual -implicitDefEqProofs only [go_sem,og_v,gv_f,gv_s,gw_t,gw_f,gw_b,g2_f,gt0e,f8,hm,f6,f5]
 by_cases k5:n.kind=5
 ·have f8:G 92 [.int .i64 5]=some (0,[.bool false]):=q92 5;have hb:badI n=(!z ||!(n.keys.isEmpty && n.unique.isEmpty) ||(!decide (n.default.size=0) ||n.given ||n.fixed) ||n.present ||(!decide (n.min=0) ||!decide (n.max=0)) ||!n.must.isEmpty):=by simp[badI,k5,hz_,isDt,inB,Bool.or_assoc]
  have hc:bodyI ip mt n=true:=by simp[bodyI,k5]
  rw[hb,hc];simp +contextual -implicitDefEqProofs only [go_sem,og_v,gv_s,gw_t,gw_b,Bool.and_self_left,bq1,bq2,Bool.not_not,g2_t,g2_f,f1,f2,f3,nstr0,t313,eSchema_eq n,f4,g1,k5]
  generalize (!z ||!(n.keys.isEmpty && n.unique.isEmpty) ||(!decide (n.default.size=0) ||n.given ||n.fixed) ||n.present ||(!decide (n.min=0) ||!decide (n.max=0)))=F at *;clear hb hc;obtain⟨me,hm⟩:∃b,n.must.isEmpty=b:=⟨_,rfl⟩
  rw[hm];cases F<;>cases me<;>simp +contextual -implicitDefEqProofs only [go_sem,og_v,gv_f,gv_s,gw_t,gw_f,gw_b,g2_f,gt0e,f8,hm]
 by_cases k6:n.kind=6
 ·have f8:G 92 [.int .i64 6]=some (0,[.bool false]):=q92 6;have hb:badI n=(!z ||!(n.keys.isEmpty && n.unique.isEmpty) ||(!decide (n.default.size=0) ||n.given ||n.fixed) ||n.needed ||n.present ||(!decide (n.min=0) ||!decide (n.max=0)) ||!n.must.isEmpty):=by simp[badI,k6,hz_,isDt,inB,Bool.or_assoc]
  have hc:bodyI ip mt n=true:=by simp[bodyI,k6]
  rw[hb,hc];simp +contextual -implicitDefEqProofs only [go_sem,og_v,gv_s,gw_t,gw_b,Bool.and_self_left,bq1,bq2,Bool.not_not,g2_t,g2_f,f1,f2,f3,nstr0,t313,eSchema_eq n,f4,g1,k6]
  generalize (!z ||!(n.keys.isEmpty && n.unique.isEmpty) ||(!decide (n.default.size=0) ||n.given ||n.fixed) ||n.needed ||n.present ||(!decide (n.min=0) ||!decide (n.max=0)))=F at *;clear hb hc;obtain⟨me,hm⟩:∃b,n.must.isEmpty=b:=⟨_,rfl⟩
  rw[hm];cases F<;>cases me<;>simp +contextual -implicitDefEqProofs only [go_sem,og_v,gv_f,gv_s,gw_t,gw_f,gw_b,g2_f,gt0e,f8,hm]
 by_cases k7:n.kind=7
 ·have f8:G 92 [.int .i64 7]=some (0,[.bool false]):=q92 7;have hb:badI n=(!z ||!(n.keys.isEmpty && n.unique.isEmpty) ||(!decide (n.default.size=0) ||n.given ||n.fixed) ||n.needed ||n.present ||(!decide (n.min=0) ||!decide (n.max=0)) ||!n.must.isEmpty):=by simp[badI,k7,hz_,isDt,inB,Bool.or_assoc]
  have hc:bodyI ip mt n=(n.when.isEmpty && n.kids.isEmpty):=by simp[bodyI,k7]
  rw[hb,hc];simp +contextual -implicitDefEqProofs only [go_sem,og_v,gv_s,gw_t,gw_b,Bool.and_self_left,bq1,bq2,Bool.not_not,g2_t,g2_f,f1,f2,f3,nstr0,t313,eSchema_eq n,f4,g1,k7]
  generalize (!z ||!(n.keys.isEmpty && n.unique.isEmpty) ||(!decide (n.default.size=0) ||n.given ||n.fixed) ||n.needed ||n.present ||(!decide (n.min=0) ||!decide (n.max=0)))=F at *;clear hb hc;obtain⟨me,hm⟩:∃b,n.must.isEmpty=b:=⟨_,rfl⟩
  rw[hm];cases F<;>cases me<;>simp +contextual -implicitDefEqProofs only [go_sem,og_v,gv_f,gv_s,gw_t,gw_f,gw_b,Bool.and_self_left,g2_f,len0,gt0e,f8,hm]
 ·have f9:G 92 [.int .i64 n.kind]=some (0,[.bool false]):=by rw[f8,isDt,show inB 1 4 n.kind=false from by rw[Bool.eq_false_iff,Ne,inB_iff];omega]
  have hc:bodyI ip mt n=false:=by simp[bodyI,k1,k2,k3,k4,k5,k6,k7]
  rw[hc];simp +contextual -implicitDefEqProofs only [go_sem,og_v,gv_s,gw_t,gw_b,Bool.and_self_left,bq1,bq2,Bool.not_not,g2_t,g2_f,f1,f2,f3,nstr0,t313,eSchema_eq n,f4,g1,k1,k2,k3,k4,k5]
  generalize (!z ||!(n.keys.isEmpty && n.unique.isEmpty) ||(!decide (n.default.size=0) ||n.given ||n.fixed) ||n.needed ||n.present ||(!decide (n.min=0) ||!decide (n.max=0)))=F at *;obtain⟨me,hm⟩:∃b,n.must.isEmpty=b:=⟨_,rfl⟩
  cases F<;>cases me<;>simp +contextual -implicitDefEqProofs only [go_sem,og_v,gv_f,gv_s,gw_t,gw_f,gw_b,g2_f,gt0e,k1,k2,k3,k4,k5,k6,k7,f9,hm]
end
end
section
set_option maxRecDepth 100000
set_option maxHeartbeats 4000000
theorem l315_0_ok{n:XSchema}{l:List XSchema}{k:Int}{b:Bool}{cnt i:Nat}(hn:szC (eSchema n)≤mg) :
  gloop (lB G l315_0) (0,[.int .i64 k,.bool b,dSchemas l,.int .i64 cnt,.int .i64 (i:Int),dStrs n.keys,.int .i64 n.keys.length,.int .i64 0]++eSchema n) =
   some (if n.keys.all (keyI n.kids)=true then (1,[.int .i64 k,.bool b,dSchemas l,.int .i64 cnt,.int .i64 (i:Int),dStrs n.keys,.int .i64 n.keys.length,.int .i64 n.keys.length,.bool false]++eSchema n) else (0,[.bool false])):=by
 have hz:=hn;rw[szC_schema]at hz;have hkl:n.keys.length≤mg:=by simp only[szl]at hz;omega
 have hcl:n.kids.length≤mg:=by simp only[szl]at hz;omega
 have h:=gl_all (b:=lB G l315_0) n.keys (fun j=>(0,[.int .i64 k,.bool b,dSchemas l,.int .i64 cnt,.int .i64 (i:Int),dStrs n.keys,.int .i64 n.keys.length,.int .i64 (j:Int)]++eSchema n)) (keyI n.kids)
  (1,[.int .i64 k,.bool b,dSchemas l,.int .i64 cnt,.int .i64 (i:Int),dStrs n.keys,.int .i64 n.keys.length,.int .i64 n.keys.length,.bool false]++eSchema n) (0,[.bool false]) (by
  intro j e hj;have hi:=nth_len hj;have hw:=wj hi hkl;have f1:=q314 (l:=n.kids) (nm:=e) hcl;cases hf:lfind n.kids e with
  |none=>
   rw[hf]at f1;simp only[nilS,eSchema_eq,List.cons_append,List.nil_append]at f1;have hk:keyI n.kids e=false:=by simp only[keyI,hf,kid1]
   simp +contextual -implicitDefEqProofs only [go_sem,og_v,gv_f,gv_s,gw_f,gw_b,lB_,l315_0,eSchema_eq n,hi,nth_map,hj,eStr,f1,hk]
  |some jx=>
   obtain⟨x,hjx,_⟩:=fnd_nth0 hf;rw[hf]at f1;simp only[hjx,eSchema_eq,List.cons_append,List.nil_append]at f1;obtain⟨we,h1⟩:∃b,x.when.isEmpty=b:=⟨_,rfl⟩
   obtain⟨gi,h2⟩:∃b,x.given=b:=⟨_,rfl⟩
   obtain⟨kd,h3⟩:∃b,decide (x.type.kind=6)=b:=⟨_,rfl⟩
   have hk:keyI n.kids e=(we && (!gi && !kd)):=by simp only[keyI,hf,kid1,hjx,keyP,h1,h2,h3]
   rw[hk];cases we<;>cases gi<;>cases kd<;>simp +contextual -implicitDefEqProofs only [go_sem,og_v,gv_s,gw_t,gw_b,lB_,l315_0,eSchema_eq n,hi,nth_map,hj,eStr,f1,gt0e,h1,h2,h3,hw]
   ) (by simp +contextual -implicitDefEqProofs only [go_sem,lB_,l315_0,eSchema_eq n,Nat.lt_irrefl])
 exact h
theorem l315_1_ok{n:XSchema}{l:List XSchema}{k:Int}{b:Bool}{cnt i:Nat}(hn:szC (eSchema n)≤mg) :
  gloop (lB G l315_1) (0,[.int .i64 k,.bool b,dSchemas l,.int .i64 cnt,.int .i64 (i:Int),dStrs n.unique,.int .i64 n.unique.length,.int .i64 0]++eSchema n) =
   some (if n.unique.all (fun u=>(lfind n.kids u).isSome)=true then (1,[.int .i64 k,.bool b,dSchemas l,.int .i64 cnt,.int .i64 (i:Int),dStrs n.unique,.int .i64 n.unique.length,.int .i64 n.unique.length,.bool false]++eSchema n) else (0,[.bool false])):=by
 have hz:=hn;rw[szC_schema]at hz;have hkl:n.unique.length≤mg:=by simp only[szl]at hz;omega
 have hcl:n.kids.length≤mg:=by simp only[szl]at hz;omega
 have h:=gl_all (b:=lB G l315_1) n.unique (fun j=>(0,[.int .i64 k,.bool b,dSchemas l,.int .i64 cnt,.int .i64 (i:Int),dStrs n.unique,.int .i64 n.unique.length,.int .i64 (j:Int)]++eSchema n)) (fun u=>(lfind n.kids u).isSome)
  (1,[.int .i64 k,.bool b,dSchemas l,.int .i64 cnt,.int .i64 (i:Int),dStrs n.unique,.int .i64 n.unique.length,.int .i64 n.unique.length,.bool false]++eSchema n) (0,[.bool false]) (by
  intro j e hj;have hi:=nth_len hj;have hw:=wj hi hkl;have f1:=q314 (l:=n.kids) (nm:=e) hcl;cases hf:lfind n.kids e with
  |none=>
   rw[hf]at f1;simp only[nilS,eSchema_eq,List.cons_append,List.nil_append]at f1;simp +contextual -implicitDefEqProofs only [go_sem,lB_,l315_1,eSchema_eq n,hi,nth_map,hj,eStr,f1,Option.isSome]
  |some jx=>
   obtain⟨x,hjx,_⟩:=fnd_nth0 hf;rw[hf]at f1;simp only[hjx,eSchema_eq,List.cons_append,List.nil_append]at f1;simp +contextual -implicitDefEqProofs only [go_sem,lB_,l315_1,eSchema_eq n,hi,nth_map,hj,eStr,f1,hw,Option.isSome]
   ) (by simp +contextual -implicitDefEqProofs only [go_sem,lB_,l315_1,eSchema_eq n,Nat.lt_irrefl])
 exact h
section
variable {ip:ByteArray→Bool} {mt:ByteArray→ByteArray→Bool} (hP:∀s:ByteArray,s.size≤mg→G 285 [.str s]=some (0,[.bool (ip s)])) (hM:∀p s:ByteArray,p.size≤mg→s.size≤mg→G 310 [.str p,.str s]=some (0,[.bool (mt p s)]))
include hP hM
theorem q315_n(m:Nat):∀(l:List XSchema) (k:Int) (b:Bool),SizeOf.sizeOf l < m→szl eSchema l≤mg→
  G 315 [dSchemas l,.int .i64 k,.bool b]=some (0,[.bool (kidI ip mt m l k b)]):=by
 induction m with
 |zero=>intro l k b h;omega
 |succ m ih=>
  intro l k b hz hs;have hl:l.length≤mg:=by simp only[szl]at hs;omega
  have h2:=gl_all (b:=lB G l315_2) l (fun i=>(0,[.int .i64 k,.bool b,dSchemas l,.int .i64 l.length,.int .i64 (i:Int)])) (fun n=>nodeI ip mt n && (!decide (n.kind=7) && (decide (decide (n.kind=6)=decide (k=5)) && (!(n.given && b) && (n.keys.all (keyI n.kids) && (n.unique.all (fun u=>(lfind n.kids u).isSome) && kidI ip mt m n.kids n.kind (b ||(!n.when.isEmpty ||decide (n.kind=6)))))))))
   (1,[.int .i64 k,.bool b,dSchemas l,.int .i64 l.length,.int .i64 l.length,.bool false]) (0,[.bool false]) (by
   intro i n hn;have hi:=nth_len hn;have hw:=wj hi hl;have hm:=nth_in hn;have hnz:szC (eSchema n)≤mg:=by have:=szl_mem eSchema hm;omega
   have f1:=q313 hP hM hnz;have e1:=l315_0_ok (n:=n) (l:=l) (k:=k) (b:=b) (cnt:=l.length) (i:=i) hnz;have e2:=l315_1_ok (n:=n) (l:=l) (k:=k) (b:=b) (cnt:=l.length) (i:=i) hnz;have f2:=ih n.kids n.kind (b ||!n.when.isEmpty ||decide (n.kind=6)) (by have:=List.sizeOf_lt_of_mem hm;have:=XSchema.kids_lt1 n;omega) (Nat.le_trans (skids_sz n) hnz);rw[← Bool.or_assoc b];simp only[eSchema_eq n,List.cons_append,List.nil_append]at f1 e1 e2;clear ih hP hM hs hz hnz;generalize nodeI ip mt n=ns at *;generalize kidI ip mt m n.kids n.kind (b ||!n.when.isEmpty ||decide (n.kind=6))=ks at *;generalize n.keys.all (keyI n.kids)=ka at *;generalize n.unique.all (fun u=>(lfind n.kids u).isSome)=ua at *;obtain⟨k7,h7⟩:∃b,decide (n.kind=7)=b:=⟨_,rfl⟩
   obtain⟨di,hdi⟩:∃x,decide (decide (n.kind=6)=decide (k=5))=x:=⟨_,rfl⟩
   obtain⟨gb,hgb⟩:∃x,(n.given && b)=x:=⟨_,rfl⟩
   rw[h7,hdi,hgb];cases ns
   ·simp +contextual -implicitDefEqProofs only [go_sem,og_v,gv_f,gv_s,gw_b,g2_f,lB_,l315_2,hi,nth_map,hn,eSchema_eq n,f1,h7]
   cases k7
   rotate_left
   ·simp +contextual -implicitDefEqProofs only [go_sem,og_v,gv_f,gv_s,gw_b,g2_f,lB_,l315_2,hi,nth_map,hn,eSchema_eq n,f1,h7]
   cases di
   ·simp +contextual -implicitDefEqProofs only [go_sem,og_v,gv_f,gv_s,gw_b,g2_f,lB_,l315_2,hi,nth_map,hn,eSchema_eq n,f1,h7,hdi]
   cases gb
   rotate_left
   ·simp +contextual -implicitDefEqProofs only [go_sem,og_v,gv_s,gw_b,g2_f,lB_,l315_2,hi,nth_map,hn,eSchema_eq n,f1,h7,hdi,hgb]
   cases ka
   ·simp only[go_sem]at e1;simp +contextual -implicitDefEqProofs only [go_sem,og_v,gv_s,gw_b,g2_f,lB_,l315_2,hi,nth_map,hn,eSchema_eq n,f1,h7,hdi,hgb,e1]
   simp only[go_sem]at e1;cases ua
   ·simp only[go_sem]at e2;simp +contextual -implicitDefEqProofs only [go_sem,og_v,gv_s,gw_b,g2_f,lB_,l315_2,hi,nth_map,hn,eSchema_eq n,f1,h7,hdi,hgb,e1,e2]
   simp only[go_sem]at e2;cases ks<;>simp +contextual -implicitDefEqProofs only [go_sem,og_v,gv_s,gw_t,gw_b,bq1,g2_f,lB_,l315_2,hi,hw,nth_map,hn,eSchema_eq n,gt0e,f1,h7,hdi,hgb,e1,e2,f2]
   ) (by simp +contextual -implicitDefEqProofs only [go_sem,lB_,l315_2,Nat.lt_irrefl])
  rw[n0]at h2;have c1:=q95 hl;have c2:=q257 (l:=l.map XSchema.name) (by rw[List.length_map];exact hl);have hdl:(dk l).length≤mg:=by have:=dk_le (es:=l);simp only[szl]at this hs;omega
  have c3:=q94 hs;have c4:=q95 hdl;have c5:=q257 (l:=(dk l).map XSchema.name) (by rw[List.length_map];exact hdl);refine gOf s315 rfl ?_;rw[kidI];clear ih hP hM;generalize l.all _=a1 at *;generalize difS (l.map XSchema.name)=d1 at *;generalize difS ((dk l).map XSchema.name)=d2 at *;unfold isCh;obtain⟨k5,h5⟩:∃x,decide (k=5)=x:=⟨_,rfl⟩
  obtain⟨k6,h6⟩:∃x,decide (k=6)=x:=⟨_,rfl⟩
  rw[h5,h6];have hkE:kE (dk l)=0∨kE (dk l)=1:=by cases dk l<;>simp[kE]
  cases d1
  ·cases k5<;>cases k6<;>simp +contextual -implicitDefEqProofs only [go_sem,og_v,gv_s,gw_b,g2_f,t315,c1,c2,h5,h6]
  cases k5
  rotate_left
  ·cases a1<;>simp only[go_sem]at h2<;>cases k6<;>simp +contextual -implicitDefEqProofs only [go_sem,og_v,gv_s,gw_b,g2_f,t315,c1,c2,h5,h6,h2]
  cases k6
  rotate_left
  ·cases a1<;>simp only[go_sem]at h2<;>simp +contextual -implicitDefEqProofs only [go_sem,og_v,gv_s,gw_b,g2_f,t315,c1,c2,h5,h6,h2]
  cases d2
  ·rcases hkE with e|e<;>rw[e]at c3<;>simp +contextual -implicitDefEqProofs only [go_sem,og_v,gv_s,gw_b,g2_f,t315,c1,c2,h5,h6,c3,c4,c5]
  cases a1<;>simp only[go_sem]at h2<;>rcases hkE with e|e<;>rw[e]at c3<;>simp +contextual -implicitDefEqProofs only [go_sem,og_v,gv_s,gw_b,g2_f,t315,c1,c2,h5,h6,c3,c4,c5,h2]
theorem q316{l:List XSchema}(hs:szl eSchema l≤mg):G 316 [dSchemas l]=some (0,[.bool (isSch ip mt l)]):=by
 have h1:=q255 hs;have h2:=q256 hs;have h3:=q315_n hP hM (SizeOf.sizeOf l+1) l 0 false (Nat.lt_succ_self _) hs;have e1:decide ((cnSchema l:Int)≤60)=decide (cnSchema l≤60):=decide_eq_decide.2 (by omega);have e2:decide ((dpS l:Int)≤8)=decide (dpS l≤8):=decide_eq_decide.2 (by omega);clear hP hM;refine gOf s316 rfl ?_;rw[isSch_I];generalize kidI ip mt (SizeOf.sizeOf l+1) l 0 false=k at *;generalize decide (cnSchema l≤60)=c at *;generalize decide (dpS l≤8)=d at *;cases c
 ·simp +contextual -implicitDefEqProofs only [go_sem,og_v,gv_s,gw_b,t316,h1,e1]
 cases d<;>simp +contextual -implicitDefEqProofs only [go_sem,og_v,gv_s,gw_b,t316,h1,e1,h2,e2,h3]
end
end
section
set_option maxRecDepth 100000
set_option maxHeartbeats 4000000
noncomputable def isTr(s:List XSchema)(l:List XNode):Bool:=isTree isPat matT (isSch isPat matT s) s l
theorem isTr_Rt{s:List XSchema}{l:List XNode}(h:isTr s l=true):Rt isPat matT (dk s) l:=isTree_Rt h
section
variable {s:List XSchema} (hs:szl eSchema s≤mg)
include hs
theorem q250t{l:List XNode}(hl:szl eNode l≤mg):G 250 [dSchemas s,dNodes l]=some (0,[.bool (isTr s l)]):=
 q250 (fun t _=>q227 t) (fun _ _ _ h=>q236 h) hs hl (q241 (fun t _=>q227 t) (fun _ _ _ h=>q236 h) hs)
theorem q327t{l:List XNode}(hl:szl eNode l≤mg):G 327 [dSchemas s,dNodes l]=some (0,[.bool (isTr s l)]):=
 q327 (fun t _=>q285 t) (fun _ _ _ h=>q310 h) hs hl (q316 (fun t _=>q285 t) (fun _ _ _ h=>q310 h) hs)
noncomputable def isPart(s:List XSchema)(a b:List XNode):Bool:=isTr s a && (isTr s b && partF ixS (SizeOf.sizeOf a+1) s a b)
variable {a b:List XNode} (ha:szl eNode a≤mg) (hb:szl eNode b≤mg)
include ha hb
theorem q254:G 254 [dSchemas s,dNodes a,dNodes b]=some (0,[.bool (isPart s a b)]):=by
 have f1:=q250t hs ha;have f2:=q250t hs hb;refine gOf s254 rfl ?_;unfold isPart;cases h1:isTr s a
 ·rw[h1]at f1;simp +contextual -implicitDefEqProofs only [go_sem,og_v,gv_s,gw_b,t254,f1]
 have f3:=q253_n (SizeOf.sizeOf a+1) s a b (Nat.lt_succ_self _) hs ha hb (isTr_Rt h1);rw[h1]at f1;generalize isTr s b=v at *;generalize partF _ _ _ _ _=w at *;cases v<;>simp +contextual -implicitDefEqProofs only [go_sem,og_v,gv_s,gw_b,t254,f1,f2,f3]
theorem q331:G 331 [dSchemas s,dNodes a,dNodes b]=some (0,[.bool (isPart s a b)]):=by
 have f1:=q327t hs ha;have f2:=q327t hs hb;refine gOf s331 rfl ?_;unfold isPart;cases h1:isTr s a
 ·rw[h1]at f1;simp +contextual -implicitDefEqProofs only [go_sem,og_v,gv_s,gw_b,t331,f1]
 rw[h1]at f1;cases h2:isTr s b
 ·rw[h2]at f2;simp +contextual -implicitDefEqProofs only [go_sem,og_v,gv_s,gw_b,t331,f1,f2]
 have f3:=q330_n (SizeOf.sizeOf a+1) s a b (Nat.lt_succ_self _) hs ha hb (isTr_Rt h1);rw[← part_eq _ _ _ _ (isTr_Rt h1) (isTr_Rt h2)]at f3;rw[h2]at f2;simp +contextual -implicitDefEqProofs only [go_sem,og_v,gv_s,gw_b,t331,f1,f2,f3]
end
end
def Lz(s:Nat)(n r:Int):Prop:=r=-1∨(0≤r∧r+(s:Int)=n)
theorem gl_sz{σ ρ:Type}{b:σ→Option (Sg σ ρ)}(es:List (List D))(mk:Int→Nat→σ)(neg:ρ)(fin:Int→ρ)
  (hgo:∀i e n,nth es i=some e→0≤n→n≤1048576→b (mk n i)=some (.out neg)∨∃r,0≤r∧r+(szC e:Int)=n∧b (mk n i)=some (.go (mk r (i+1))))
  (hend:∀n,b (mk n es.length)=some (.out (fin n))):∀(m i:Nat) (n:Int),i+m=es.length→0≤n→n≤1048576→
  gloop b (mk n i)=some neg∨∃r,0≤r∧r+(szE (es.drop i):Int)=n∧gloop b (mk n i)=some (fin r)
 |0,i,n,h,h0,h1=>by
  obtain rfl:i=es.length:=by omega
  refine .inr ⟨n,h0,?_,gloop_out (hend n)⟩;rw[List.drop_length,szE];omega
 |m+1,i,n,h,h0,h1=>by
  have hi:i < es.length:=by omega
  have hn:nth es i=some es[i]:=nth_lt hi;have hd:es.drop i=es[i]::es.drop (i+1):=List.drop_eq_getElem_cons hi;rcases hgo i _ n hn h0 h1 with g|⟨r,p,q,g⟩
  ·exact .inl (gloop_out g)
  ·rw[gloop_go g,hd,szE];rcases gl_sz es mk neg fin hgo hend m (i+1) r (by omega) p (by omega) with g|⟨r',p',q',g⟩
   ·exact .inl g
   ·exact .inr ⟨r',p',by omega,g⟩
theorem gl_to{σ ρ:Type}{b:σ→Option (Sg σ ρ)}(es:List (List D))(z:List D)(mk:Nat→List (List D)→σ)(fin:List (List D)→ρ)
  (hgo:∀i e acc,nth es i=some e→nth acc i=some z→b (mk i acc)=some (.go (mk (i+1) (acc.set i e))))
  (hend:∀acc,b (mk es.length acc)=some (.out (fin acc))):gloop b (mk 0 (List.replicate es.length z))=some (fin es):=by
 have h:=gl_gather (b:=b) es mk (fun i=>es.take i++List.replicate (es.length - i) z) (fin es) (by
  intro i e hn;have hi:=nth_len hn;have hz:nth (es.take i++List.replicate (es.length - i) z) i=some z:=by
   rw[nth_get,List.getElem?_append_right (by rw[List.length_take];omega),List.length_take,List.getElem?_replicate,if_pos (by omega)]
  have h:=hgo i e _ hn hz;rw[fill_rep hn]at h;exact h) (by
  have h:=hend (es.take es.length++List.replicate (es.length - es.length) z);rw[List.take_length,Nat.sub_self,List.replicate_zero,List.append_nil]at h ⊢;exact h) es.length 0 (by omega)
 rw[List.take_zero,List.nil_append,Nat.sub_zero]at h;exact h
theorem po_set{k:Nat}{fl:Bool}{es:List (List D)}{i:Nat}{z ds:List D}(h:nth es i=some z)(hz:z.length=k)(hd:ds.length=k)(hf:fl=true→plains ds=true) :
  evPO (.set 0) (.list k fl es::.int .i64 (i:Int)::ds)=some (.list k fl (es.set i ds)):=by
 simp only[evPO,Int.toNat_natCast,h];rw[if_pos ⟨by omega,hf⟩];have:splC z 0 ds=ds:=by
  unfold splC;rw[List.take_zero,List.nil_append,Nat.zero_add,List.drop_of_length_le (by omega),List.append_nil]
 rw[this]
theorem po_make{k by_:Nat}{fl:Bool}{zs:List SK}{n:Nat}(hn:n≤mg)(hb:by_≤4096):evPO (.make k by_ fl zs) [.int .i64 (n:Int)]=some (.list k fl (List.replicate n (zs.map SK.d))):=by
 simp only[evPO,Int.toNat_natCast];rw[if_pos];have:n * by_≤mg * 4096:=Nat.mul_le_mul hn hb;simp only[mg,room]at *;omega
theorem dec_all{α:Type}{f:α→List D}:∀{es:List (List D)},(∀e∈es,∃x,e=f x)→∃xs:List α,es=xs.map f
 |[],_=>⟨[],rfl⟩
 |e::es,h=>by
  obtain⟨x,rfl⟩:=h e List.mem_cons_self;obtain⟨xs,rfl⟩:=dec_all (es:=es) fun e he=>h e (List.mem_cons_of_mem _ he);exact⟨x::xs,rfl⟩
theorem size_kid{k:Nat}{fl:Bool}{xs es:List (List D)}{e:List D}(he:e∈es)(hx:D.list k fl xs∈e):SizeOf.sizeOf xs < SizeOf.sizeOf es:=by
 have h1:=List.sizeOf_lt_of_mem he;have h2:=List.sizeOf_lt_of_mem hx;simp only[D.list.sizeOf_spec]at h2;omega
section
set_option maxRecDepth 100000
set_option maxHeartbeats 4000000
theorem inv_str{B:Nat}{e:List D}(h:OkC B (lay 0) e):∃x0,e=[.str x0]∧(x0.size≤maxLen):=by
 obtain⟨_,_,rfl,h0,g0⟩:=h.cons_inv;obtain⟨x0,rfl,b0⟩:=h0.str_inv;rw[g0.nil_inv];exact⟨x0,rfl,b0⟩
theorem inv_Node{B:Nat}{e:List D}(h:OkC B (lay 2) e):∃x0 x1 x2,e=[.str x0,.str x1,.list 3 false x2]∧(x0.size≤maxLen)∧(x1.size≤maxLen)∧(x2.length≤B∧OkE B 2 x2):=by
 obtain⟨_,_,rfl,h0,g0⟩:=h.cons_inv;obtain⟨x0,rfl,b0⟩:=h0.str_inv;obtain⟨_,_,rfl,h1,g1⟩:=g0.cons_inv;obtain⟨x1,rfl,b1⟩:=h1.str_inv;obtain⟨_,_,rfl,h2,g2⟩:=g1.cons_inv;obtain⟨x2,rfl,b2,c2⟩:=h2.list_inv;rw[g2.nil_inv];exact⟨x0,x1,x2,rfl,b0,b1,⟨b2,c2⟩⟩
theorem inv_Range{B:Nat}{e:List D}(h:OkC B (lay 6) e):∃x0 x1,e=[.int .i64 x0,.int .i64 x1]∧(-9223372036854775808≤x0∧x0≤9223372036854775807)∧(-9223372036854775808≤x1∧x1≤9223372036854775807):=by
 obtain⟨_,_,rfl,h0,g0⟩:=h.cons_inv;obtain⟨x0,rfl,b0⟩:=h0.int_inv;obtain⟨_,_,rfl,h1,g1⟩:=g0.cons_inv;obtain⟨x1,rfl,b1⟩:=h1.int_inv;rw[g1.nil_inv];exact⟨x0,x1,rfl,⟨b0.1,b0.2⟩,⟨b1.1,b1.2⟩⟩
theorem inv_Type{B:Nat}{e:List D}(h:OkC B (lay 7) e):∃x0 x1 x2 x3 x4,e=[.int .i64 x0,.list 2 true x1,.list 1 true x2,.str x3,.str x4]∧(-9223372036854775808≤x0∧x0≤9223372036854775807)∧(x1.length≤B∧OkE B 6 x1)∧(x2.length≤B∧OkE B 0 x2)∧(x3.size≤maxLen)∧(x4.size≤maxLen):=by
 obtain⟨_,_,rfl,h0,g0⟩:=h.cons_inv;obtain⟨x0,rfl,b0⟩:=h0.int_inv;obtain⟨_,_,rfl,h1,g1⟩:=g0.cons_inv;obtain⟨x1,rfl,b1,c1⟩:=h1.list_inv;obtain⟨_,_,rfl,h2,g2⟩:=g1.cons_inv;obtain⟨x2,rfl,b2,c2⟩:=h2.list_inv;obtain⟨_,_,rfl,h3,g3⟩:=g2.cons_inv;obtain⟨x3,rfl,b3⟩:=h3.str_inv;obtain⟨_,_,rfl,h4,g4⟩:=g3.cons_inv;obtain⟨x4,rfl,b4⟩:=h4.str_inv;rw[g4.nil_inv];exact⟨x0,x1,x2,x3,x4,rfl,⟨b0.1,b0.2⟩,⟨b1,c1⟩,⟨b2,c2⟩,b3,b4⟩
theorem inv_Test{B:Nat}{e:List D}(h:OkC B (lay 8) e):∃x0 x1,e=[.str x0,.str x1]∧(x0.size≤maxLen)∧(x1.size≤maxLen):=by
 obtain⟨_,_,rfl,h0,g0⟩:=h.cons_inv;obtain⟨x0,rfl,b0⟩:=h0.str_inv;obtain⟨_,_,rfl,h1,g1⟩:=g0.cons_inv;obtain⟨x1,rfl,b1⟩:=h1.str_inv;rw[g1.nil_inv];exact⟨x0,x1,rfl,b0,b1⟩
theorem inv_Step{B:Nat}{e:List D}(h:OkC B (lay 9) e):∃x0 x1,e=[.str x0,.list 2 true x1]∧(x0.size≤maxLen)∧(x1.length≤B∧OkE B 8 x1):=by
 obtain⟨_,_,rfl,h0,g0⟩:=h.cons_inv;obtain⟨x0,rfl,b0⟩:=h0.str_inv;obtain⟨_,_,rfl,h1,g1⟩:=g0.cons_inv;obtain⟨x1,rfl,b1,c1⟩:=h1.list_inv;rw[g1.nil_inv];exact⟨x0,x1,rfl,b0,⟨b1,c1⟩⟩
theorem inv_Path{B:Nat}{e:List D}(h:OkC B (lay 10) e):∃x0 x1 x2,e=[.bool x0,.int .i64 x1,.list 2 false x2]∧(True)∧(-9223372036854775808≤x1∧x1≤9223372036854775807)∧(x2.length≤B∧OkE B 9 x2):=by
 obtain⟨_,_,rfl,h0,g0⟩:=h.cons_inv;obtain⟨x0,rfl⟩:=h0.bool_inv;obtain⟨_,_,rfl,h1,g1⟩:=g0.cons_inv;obtain⟨x1,rfl,b1⟩:=h1.int_inv;obtain⟨_,_,rfl,h2,g2⟩:=g1.cons_inv;obtain⟨x2,rfl,b2,c2⟩:=h2.list_inv;rw[g2.nil_inv];exact⟨x0,x1,x2,rfl,trivial,⟨b1.1,b1.2⟩,⟨b2,c2⟩⟩
theorem inv_Expr{B:Nat}{e:List D}(h:OkC B (lay 11) e):∃x0 x1 x2 x3 x4 x5 x6,e=[.int .i64 x0,.int .i64 x1,.str x2,.bool x3,.int .i64 x4,.list 2 false x5,.list 7 false x6]∧(-9223372036854775808≤x0∧x0≤9223372036854775807)∧(-9223372036854775808≤x1∧x1≤9223372036854775807)∧(x2.size≤maxLen)∧(True)∧(-9223372036854775808≤x4∧x4≤9223372036854775807)∧(x5.length≤B∧OkE B 9 x5)∧(x6.length≤B∧OkE B 11 x6):=by
 obtain⟨_,_,rfl,h0,g0⟩:=h.cons_inv;obtain⟨x0,rfl,b0⟩:=h0.int_inv;obtain⟨_,_,rfl,h1,g1⟩:=g0.cons_inv;obtain⟨x1,rfl,b1⟩:=h1.int_inv;obtain⟨_,_,rfl,h2,g2⟩:=g1.cons_inv;obtain⟨x2,rfl,b2⟩:=h2.str_inv;obtain⟨_,_,rfl,h3,g3⟩:=g2.cons_inv;obtain⟨x3,rfl⟩:=h3.bool_inv;obtain⟨_,_,rfl,h4,g4⟩:=g3.cons_inv;obtain⟨x4,rfl,b4⟩:=h4.int_inv;obtain⟨_,_,rfl,h5,g5⟩:=g4.cons_inv;obtain⟨x5,rfl,b5,c5⟩:=h5.list_inv;obtain⟨_,_,rfl,h6,g6⟩:=g5.cons_inv;obtain⟨x6,rfl,b6,c6⟩:=h6.list_inv;rw[g6.nil_inv];exact⟨x0,x1,x2,x3,x4,x5,x6,rfl,⟨b0.1,b0.2⟩,⟨b1.1,b1.2⟩,b2,trivial,⟨b4.1,b4.2⟩,⟨b5,c5⟩,⟨b6,c6⟩⟩
theorem inv_Schema{B:Nat}{e:List D}(h:OkC B (lay 12) e):∃x0 x1 x2 x3 x4 x5 x6 x7 x8 x9 x10 x11 x12 x13 x14 x15 x16 x17 x18,e=[.int .i64 x0,.str x1,.int .i64 x2,.list 2 true x3,.list 1 true x4,.str x5,.str x6,.list 1 true x7,.list 1 true x8,.str x9,.bool x10,.bool x11,.bool x12,.bool x13,.int .i64 x14,.int .i64 x15,.list 7 false x16,.list 7 false x17,.list 19 false x18]∧(-9223372036854775808≤x0∧x0≤9223372036854775807)∧(x1.size≤maxLen)∧(-9223372036854775808≤x2∧x2≤9223372036854775807)∧(x3.length≤B∧OkE B 6 x3)∧(x4.length≤B∧OkE B 0 x4)∧(x5.size≤maxLen)∧(x6.size≤maxLen)∧(x7.length≤B∧OkE B 0 x7)∧(x8.length≤B∧OkE B 0 x8)∧(x9.size≤maxLen)∧(True)∧(True)∧(True)∧(True)∧(-9223372036854775808≤x14∧x14≤9223372036854775807)∧(-9223372036854775808≤x15∧x15≤9223372036854775807)∧(x16.length≤B∧OkE B 11 x16)∧(x17.length≤B∧OkE B 11 x17)∧(x18.length≤B∧OkE B 12 x18):=by
 obtain⟨_,_,rfl,h0,g0⟩:=h.cons_inv;obtain⟨x0,rfl,b0⟩:=h0.int_inv;obtain⟨_,_,rfl,h1,g1⟩:=g0.cons_inv;obtain⟨x1,rfl,b1⟩:=h1.str_inv;obtain⟨_,_,rfl,h2,g2⟩:=g1.cons_inv;obtain⟨x2,rfl,b2⟩:=h2.int_inv;obtain⟨_,_,rfl,h3,g3⟩:=g2.cons_inv;obtain⟨x3,rfl,b3,c3⟩:=h3.list_inv;obtain⟨_,_,rfl,h4,g4⟩:=g3.cons_inv;obtain⟨x4,rfl,b4,c4⟩:=h4.list_inv;obtain⟨_,_,rfl,h5,g5⟩:=g4.cons_inv;obtain⟨x5,rfl,b5⟩:=h5.str_inv;obtain⟨_,_,rfl,h6,g6⟩:=g5.cons_inv;obtain⟨x6,rfl,b6⟩:=h6.str_inv;obtain⟨_,_,rfl,h7,g7⟩:=g6.cons_inv;obtain⟨x7,rfl,b7,c7⟩:=h7.list_inv;obtain⟨_,_,rfl,h8,g8⟩:=g7.cons_inv;obtain⟨x8,rfl,b8,c8⟩:=h8.list_inv;obtain⟨_,_,rfl,h9,g9⟩:=g8.cons_inv;obtain⟨x9,rfl,b9⟩:=h9.str_inv;obtain⟨_,_,rfl,h10,g10⟩:=g9.cons_inv;obtain⟨x10,rfl⟩:=h10.bool_inv;obtain⟨_,_,rfl,h11,g11⟩:=g10.cons_inv;obtain⟨x11,rfl⟩:=h11.bool_inv;obtain⟨_,_,rfl,h12,g12⟩:=g11.cons_inv;obtain⟨x12,rfl⟩:=h12.bool_inv;obtain⟨_,_,rfl,h13,g13⟩:=g12.cons_inv;obtain⟨x13,rfl⟩:=h13.bool_inv;obtain⟨_,_,rfl,h14,g14⟩:=g13.cons_inv;obtain⟨x14,rfl,b14⟩:=h14.int_inv;obtain⟨_,_,rfl,h15,g15⟩:=g14.cons_inv;obtain⟨x15,rfl,b15⟩:=h15.int_inv;obtain⟨_,_,rfl,h16,g16⟩:=g15.cons_inv;obtain⟨x16,rfl,b16,c16⟩:=h16.list_inv;obtain⟨_,_,rfl,h17,g17⟩:=g16.cons_inv;obtain⟨x17,rfl,b17,c17⟩:=h17.list_inv;obtain⟨_,_,rfl,h18,g18⟩:=g17.cons_inv;obtain⟨x18,rfl,b18,c18⟩:=h18.list_inv;rw[g18.nil_inv];exact⟨x0,x1,x2,x3,x4,x5,x6,x7,x8,x9,x10,x11,x12,x13,x14,x15,x16,x17,x18,rfl,⟨b0.1,b0.2⟩,b1,⟨b2.1,b2.2⟩,⟨b3,c3⟩,⟨b4,c4⟩,b5,b6,⟨b7,c7⟩,⟨b8,c8⟩,b9,trivial,trivial,trivial,trivial,⟨b14.1,b14.2⟩,⟨b15.1,b15.2⟩,⟨b16,c16⟩,⟨b17,c17⟩,⟨b18,c18⟩⟩
theorem kid_Node{B:Nat}{e:List D}{xs:List (List D)}(ok:OkC B (lay 2) e)(h:.list 3 false xs∈e):xs.length≤B∧OkE B 2 xs:=by
 obtain⟨x0,x1,x2,rfl,b0,b1,⟨b2,c2⟩⟩:=inv_Node ok;simp only[List.mem_cons,D.list.injEq,reduceCtorEq,List.not_mem_nil,or_false,false_or,true_and]at h;subst h;exact⟨b2,c2⟩
theorem kid_Expr{B:Nat}{e:List D}{xs:List (List D)}(ok:OkC B (lay 11) e)(h:.list 7 false xs∈e):xs.length≤B∧OkE B 11 xs:=by
 obtain⟨x0,x1,x2,x3,x4,x5,x6,rfl,_,_,b2,_,_,⟨b5,c5⟩,⟨b6,c6⟩⟩:=inv_Expr ok;simp only[List.mem_cons,D.list.injEq,reduceCtorEq,List.not_mem_nil,or_false,false_or,Nat.reduceEqDiff,false_and,true_and]at h;subst h;exact⟨b6,c6⟩
theorem kid_Schema{B:Nat}{e:List D}{xs:List (List D)}(ok:OkC B (lay 12) e)(h:.list 19 false xs∈e):xs.length≤B∧OkE B 12 xs:=by
 obtain⟨x0,x1,x2,x3,x4,x5,x6,x7,x8,x9,x10,x11,x12,x13,x14,x15,x16,x17,x18,rfl,_,b1,_,⟨b3,c3⟩,⟨b4,c4⟩,b5,b6,⟨b7,c7⟩,⟨b8,c8⟩,b9,_,_,_,_,_,_,⟨b16,c16⟩,⟨b17,c17⟩,⟨b18,c18⟩⟩:=inv_Schema ok;simp only[List.mem_cons,D.list.injEq,reduceCtorEq,List.not_mem_nil,or_false,false_or,Nat.reduceEqDiff,false_and,true_and,and_false]at h;subst h;exact⟨b18,c18⟩
end
section
set_option maxRecDepth 100000
set_option maxHeartbeats 4000000
theorem szL_str{es:List (List D)}(hB:es.length≤maxLen)(ok:OkE maxLen 0 es):∀l:Int,0≤l→l≤1048576→∃r,G 46 [.list 1 true es,.int .i64 l]=some (0,[.int .i64 r])∧Lz (es.length+szE es) l r:=by
 intro l h0 h1;have w:IntKind.i64.wrap (l - (es.length:Int))=l - (es.length:Int):=wrap_i64 (by simp only[maxLen]at hB;omega);by_cases c:l - (es.length:Int) < 0
 ·exact⟨-1,gOf s46 rfl (by simp -implicitDefEqProofs only [go_sem,t46,w,c]),.inl rfl⟩
 have hl:es.length≤mg:=by simp only[mg];omega
 have hg:=gl_sz (b:=lB G l46_0) es (fun n i=>(0,[.list 1 true es,.int .i64 n,.int .i64 (i:Int)])) (0,[.int .i64 (-1)]) (fun n=>(1,[.list 1 true es,.int .i64 n,.int .i64 es.length,.bool false])) (by
  intro i e n hn h0 h1;have hi:=nth_len hn;have hw:=wj hi hl;have oe:=ok.mem e (nth_in hn);obtain⟨x0,rfl,b0⟩:=inv_str oe;have w:IntKind.i64.wrap (n - (x0.size:Int))=n - (x0.size:Int):=wrap_i64 (by simp only[maxLen]at b0;omega);by_cases c:n - (x0.size:Int) < 0
  ·exact .inl (by simp -implicitDefEqProofs only [go_sem,lB_,l46_0,hi,hn,w,c])
  ·exact .inr ⟨n - (x0.size:Int),by omega,by simp only[szC,D.sz];omega,by simp -implicitDefEqProofs only [go_sem,lB_,l46_0,hi,hn,hw,w,c]⟩
  ) (by
  intro n;simp -implicitDefEqProofs only [go_sem,lB_,l46_0,Nat.lt_irrefl]) es.length 0 (l - (es.length:Int)) (by omega) (by omega) (by omega)
 rw[n0]at hg;rcases hg with g|⟨r,p,q,g⟩
 ·exact⟨-1,gOf s46 rfl (by simp -implicitDefEqProofs only [go_sem,t46,w,c,g]),.inl rfl⟩
 ·rw[List.drop_zero]at q;exact⟨r,gOf s46 rfl (by simp -implicitDefEqProofs only [go_sem,t46,w,c,g]),.inr ⟨p,by omega⟩⟩
theorem szC_Node{e:List D}(ok:OkC maxLen (lay 2) e)(ih:∀xs,.list 3 false xs∈e→∀l:Int,0≤l→l≤1048576→∃r,G 4 [.list 3 false xs,.int .i64 l]=some (0,[.int .i64 r])∧Lz (xs.length+szE xs) l r):∀l:Int,0≤l→l≤1048576→∃r,G 3 (e++[.int .i64 l])=some (0,[.int .i64 r])∧Lz (szC e) l r:=by
 intro l h0 h1;obtain⟨x0,x1,x2,rfl,b0,b1,⟨b2,c2⟩⟩:=inv_Node ok;have w0:IntKind.i64.wrap (l - (x0.size:Int))=l - (x0.size:Int):=wrap_i64 (by simp only[maxLen]at b0;omega);by_cases c0:l - (x0.size:Int) < 0
 ·exact⟨-1,gOf s3 rfl (by simp -implicitDefEqProofs only [go_sem,t3,w0,c0]),.inl rfl⟩
 have w1:IntKind.i64.wrap ((l - (x0.size:Int)) - (x1.size:Int))=(l - (x0.size:Int)) - (x1.size:Int):=wrap_i64 (by simp only[maxLen]at b1;omega);by_cases c1:(l - (x0.size:Int)) - (x1.size:Int) < 0
 ·exact⟨-1,gOf s3 rfl (by simp -implicitDefEqProofs only [go_sem,t3,w0,c0,w1,c1]),.inl rfl⟩
 obtain⟨r2,f2,h2⟩:=ih x2 (by simp only[List.mem_cons,true_or,or_true]) ((l - (x0.size:Int)) - (x1.size:Int)) (by omega) (by omega);rcases h2 with rfl|⟨p2,q2⟩
 ·exact⟨-1,gOf s3 rfl (by simp -implicitDefEqProofs only [go_sem,t3,w0,c0,w1,c1,f2]),.inl rfl⟩
 have c2:¬r2 < 0:=by omega
 exact⟨r2,gOf s3 rfl (by simp -implicitDefEqProofs only [go_sem,t3,w0,c0,w1,c1,f2,c2]),.inr ⟨by omega,by simp only[szC,D.sz];omega⟩⟩
theorem szL_Node_s{es:List (List D)}(hB:es.length≤maxLen)(ok:OkE maxLen 2 es)(he:∀e∈es,∀l:Int,0≤l→l≤1048576→∃r,G 3 (e++[.int .i64 l])=some (0,[.int .i64 r])∧Lz (szC e) l r):∀l:Int,0≤l→l≤1048576→∃r,G 4 [.list 3 false es,.int .i64 l]=some (0,[.int .i64 r])∧Lz (es.length+szE es) l r:=by
 intro l h0 h1;have w:IntKind.i64.wrap (l - (es.length:Int))=l - (es.length:Int):=wrap_i64 (by simp only[maxLen]at hB;omega);by_cases c:l - (es.length:Int) < 0
 ·exact⟨-1,gOf s4 rfl (by simp -implicitDefEqProofs only [go_sem,t4,w,c]),.inl rfl⟩
 have hl:es.length≤mg:=by simp only[mg];omega
 have hg:=gl_sz (b:=lB G l4_0) es (fun n i=>(0,[.list 3 false es,.int .i64 n,.int .i64 (i:Int)])) (0,[.int .i64 (-1)]) (fun n=>(1,[.list 3 false es,.int .i64 n,.int .i64 es.length,.bool false])) (by
  intro i e n hn h0 h1;have hi:=nth_len hn;have hw:=wj hi hl;have oe:=ok.mem e (nth_in hn);obtain⟨r,f,h⟩:=he e (nth_in hn) n h0 h1;obtain⟨x0,x1,x2,rfl,b0,b1,⟨b2,c2⟩⟩:=inv_Node oe;have hh:evPO (.has 3) [.list 0 false [[.str x0,.str x1,.list 3 false x2]]]=some (.bool false):=rfl;simp only[List.cons_append,List.nil_append]at f;rcases h with rfl|⟨p,q⟩
  ·exact .inl (by simp -implicitDefEqProofs only [go_sem,lB_,l4_0,hi,hn,hh,f])
  ·have c:¬r < 0:=by omega
   exact .inr ⟨r,p,q,by simp -implicitDefEqProofs only [go_sem,lB_,l4_0,hi,hn,hh,f,hw,c]⟩
  ) (by
  intro n;simp -implicitDefEqProofs only [go_sem,lB_,l4_0,Nat.lt_irrefl]) es.length 0 (l - (es.length:Int)) (by omega) (by omega) (by omega)
 rw[n0]at hg;rcases hg with g|⟨r,p,q,g⟩
 ·exact⟨-1,gOf s4 rfl (by simp -implicitDefEqProofs only [go_sem,t4,w,c,g]),.inl rfl⟩
 ·rw[List.drop_zero]at q;exact⟨r,gOf s4 rfl (by simp -implicitDefEqProofs only [go_sem,t4,w,c,g]),.inr ⟨p,by omega⟩⟩
theorem szL_Node_n(m:Nat):∀es:List (List D),SizeOf.sizeOf es < m→es.length≤maxLen→OkE maxLen 2 es→∀l:Int,0≤l→l≤1048576→∃r,G 4 [.list 3 false es,.int .i64 l]=some (0,[.int .i64 r])∧Lz (es.length+szE es) l r:=by
 induction m with
 |zero=>intro es h;omega
 |succ m ih=>
  intro es hz hB ok;refine szL_Node_s hB ok fun e he=>szC_Node (ok.mem e he) fun xs hx=>?_;obtain⟨b,c⟩:=kid_Node (ok.mem e he) hx;exact ih xs (by have:=size_kid he hx;omega) b c
theorem szL_Node{es:List (List D)}(hB:es.length≤maxLen)(ok:OkE maxLen 2 es):∀l:Int,0≤l→l≤1048576→∃r,G 4 [.list 3 false es,.int .i64 l]=some (0,[.int .i64 r])∧Lz (es.length+szE es) l r:=szL_Node_n _ es (Nat.lt_succ_self _) hB ok
theorem szL_Range{es:List (List D)}(hB:es.length≤maxLen)(ok:OkE maxLen 6 es):∀l:Int,0≤l→l≤1048576→∃r,G 45 [.list 2 true es,.int .i64 l]=some (0,[.int .i64 r])∧Lz (es.length+szE es) l r:=by
 intro l h0 h1;have w:IntKind.i64.wrap (l - (es.length:Int))=l - (es.length:Int):=wrap_i64 (by simp only[maxLen]at hB;omega);by_cases c:l - (es.length:Int) < 0
 ·exact⟨-1,gOf s45 rfl (by simp -implicitDefEqProofs only [go_sem,t45,w,c]),.inl rfl⟩
 have z:szE es=0:=by
  clear hB w c
  induction es with
  |nil=>rfl
  |cons e es ih=>
   simp only[OkE]at ok;obtain⟨o1,o2⟩:=ok;obtain⟨x0,x1,rfl,_,_⟩:=inv_Range o1;simp only[szE,szC,D.sz,ih o2]
 exact⟨l - (es.length:Int),gOf s45 rfl (by simp -implicitDefEqProofs only [go_sem,t45,w,c]),.inr ⟨by omega,by omega⟩⟩
theorem szC_Type{e:List D}(ok:OkC maxLen (lay 7) e):∀l:Int,0≤l→l≤1048576→∃r,G 47 (e++[.int .i64 l])=some (0,[.int .i64 r])∧Lz (szC e) l r:=by
 intro l h0 h1;obtain⟨x0,x1,x2,x3,x4,rfl,_,⟨b1,c1⟩,⟨b2,c2⟩,b3,b4⟩:=inv_Type ok;obtain⟨r1,f1,h1⟩:=szL_Range b1 c1 l (by omega) (by omega);rcases h1 with rfl|⟨p1,q1⟩
 ·exact⟨-1,gOf s47 rfl (by simp -implicitDefEqProofs only [go_sem,t47,f1]),.inl rfl⟩
 have c1:¬r1 < 0:=by omega
 obtain⟨r2,f2,h2⟩:=szL_str b2 c2 r1 (by omega) (by omega);rcases h2 with rfl|⟨p2,q2⟩
 ·exact⟨-1,gOf s47 rfl (by simp -implicitDefEqProofs only [go_sem,t47,f1,c1,f2]),.inl rfl⟩
 have c2:¬r2 < 0:=by omega
 have w3:IntKind.i64.wrap (r2 - (x3.size:Int))=r2 - (x3.size:Int):=wrap_i64 (by simp only[maxLen]at b3;omega);by_cases c3:r2 - (x3.size:Int) < 0
 ·exact⟨-1,gOf s47 rfl (by simp -implicitDefEqProofs only [go_sem,t47,f1,c1,f2,c2,w3,c3]),.inl rfl⟩
 have w4:IntKind.i64.wrap ((r2 - (x3.size:Int)) - (x4.size:Int))=(r2 - (x3.size:Int)) - (x4.size:Int):=wrap_i64 (by simp only[maxLen]at b4;omega);by_cases c4:(r2 - (x3.size:Int)) - (x4.size:Int) < 0
 ·exact⟨-1,gOf s47 rfl (by simp -implicitDefEqProofs only [go_sem,t47,f1,c1,f2,c2,w3,c3,w4,c4]),.inl rfl⟩
 exact⟨((r2 - (x3.size:Int)) - (x4.size:Int)),gOf s47 rfl (by simp -implicitDefEqProofs only [go_sem,t47,f1,c1,f2,c2,w3,c3,w4,c4]),.inr ⟨by omega,by simp only[szC,D.sz];omega⟩⟩
theorem szC_Test{e:List D}(ok:OkC maxLen (lay 8) e):∀l:Int,0≤l→l≤1048576→∃r,G 48 (e++[.int .i64 l])=some (0,[.int .i64 r])∧Lz (szC e) l r:=by
 intro l h0 h1;obtain⟨x0,x1,rfl,b0,b1⟩:=inv_Test ok;have w0:IntKind.i64.wrap (l - (x0.size:Int))=l - (x0.size:Int):=wrap_i64 (by simp only[maxLen]at b0;omega);by_cases c0:l - (x0.size:Int) < 0
 ·exact⟨-1,gOf s48 rfl (by simp -implicitDefEqProofs only [go_sem,t48,w0,c0]),.inl rfl⟩
 have w1:IntKind.i64.wrap ((l - (x0.size:Int)) - (x1.size:Int))=(l - (x0.size:Int)) - (x1.size:Int):=wrap_i64 (by simp only[maxLen]at b1;omega);by_cases c1:(l - (x0.size:Int)) - (x1.size:Int) < 0
 ·exact⟨-1,gOf s48 rfl (by simp -implicitDefEqProofs only [go_sem,t48,w0,c0,w1,c1]),.inl rfl⟩
 exact⟨((l - (x0.size:Int)) - (x1.size:Int)),gOf s48 rfl (by simp -implicitDefEqProofs only [go_sem,t48,w0,c0,w1,c1]),.inr ⟨by omega,by simp only[szC,D.sz];omega⟩⟩
theorem szL_Test_s{es:List (List D)}(hB:es.length≤maxLen)(ok:OkE maxLen 8 es)(he:∀e∈es,∀l:Int,0≤l→l≤1048576→∃r,G 48 (e++[.int .i64 l])=some (0,[.int .i64 r])∧Lz (szC e) l r):∀l:Int,0≤l→l≤1048576→∃r,G 49 [.list 2 true es,.int .i64 l]=some (0,[.int .i64 r])∧Lz (es.length+szE es) l r:=by
 intro l h0 h1;have w:IntKind.i64.wrap (l - (es.length:Int))=l - (es.length:Int):=wrap_i64 (by simp only[maxLen]at hB;omega);by_cases c:l - (es.length:Int) < 0
 ·exact⟨-1,gOf s49 rfl (by simp -implicitDefEqProofs only [go_sem,t49,w,c]),.inl rfl⟩
 have hl:es.length≤mg:=by simp only[mg];omega
 have hg:=gl_sz (b:=lB G l49_0) es (fun n i=>(0,[.list 2 true es,.int .i64 n,.int .i64 (i:Int)])) (0,[.int .i64 (-1)]) (fun n=>(1,[.list 2 true es,.int .i64 n,.int .i64 es.length,.bool false])) (by
  intro i e n hn h0 h1;have hi:=nth_len hn;have hw:=wj hi hl;have oe:=ok.mem e (nth_in hn);obtain⟨r,f,h⟩:=he e (nth_in hn) n h0 h1;obtain⟨x0,x1,rfl,b0,b1⟩:=inv_Test oe;have hh:evPO (.has 2) [.list 0 false [[.str x0,.str x1]]]=some (.bool false):=rfl;simp only[List.cons_append,List.nil_append]at f;rcases h with rfl|⟨p,q⟩
  ·exact .inl (by simp -implicitDefEqProofs only [go_sem,lB_,l49_0,hi,hn,hh,f])
  ·have c:¬r < 0:=by omega
   exact .inr ⟨r,p,q,by simp -implicitDefEqProofs only [go_sem,lB_,l49_0,hi,hn,hh,f,hw,c]⟩
  ) (by
  intro n;simp -implicitDefEqProofs only [go_sem,lB_,l49_0,Nat.lt_irrefl]) es.length 0 (l - (es.length:Int)) (by omega) (by omega) (by omega)
 rw[n0]at hg;rcases hg with g|⟨r,p,q,g⟩
 ·exact⟨-1,gOf s49 rfl (by simp -implicitDefEqProofs only [go_sem,t49,w,c,g]),.inl rfl⟩
 ·rw[List.drop_zero]at q;exact⟨r,gOf s49 rfl (by simp -implicitDefEqProofs only [go_sem,t49,w,c,g]),.inr ⟨p,by omega⟩⟩
theorem szL_Test{es:List (List D)}(hB:es.length≤maxLen)(ok:OkE maxLen 8 es):∀l:Int,0≤l→l≤1048576→∃r,G 49 [.list 2 true es,.int .i64 l]=some (0,[.int .i64 r])∧Lz (es.length+szE es) l r:=szL_Test_s hB ok fun e he=>szC_Test (ok.mem e he)
theorem szC_Step{e:List D}(ok:OkC maxLen (lay 9) e):∀l:Int,0≤l→l≤1048576→∃r,G 50 (e++[.int .i64 l])=some (0,[.int .i64 r])∧Lz (szC e) l r:=by
 intro l h0 h1;obtain⟨x0,x1,rfl,b0,⟨b1,c1⟩⟩:=inv_Step ok;have w0:IntKind.i64.wrap (l - (x0.size:Int))=l - (x0.size:Int):=wrap_i64 (by simp only[maxLen]at b0;omega);by_cases c0:l - (x0.size:Int) < 0
 ·exact⟨-1,gOf s50 rfl (by simp -implicitDefEqProofs only [go_sem,t50,w0,c0]),.inl rfl⟩
 obtain⟨r1,f1,h1⟩:=szL_Test b1 c1 (l - (x0.size:Int)) (by omega) (by omega);rcases h1 with rfl|⟨p1,q1⟩
 ·exact⟨-1,gOf s50 rfl (by simp -implicitDefEqProofs only [go_sem,t50,w0,c0,f1]),.inl rfl⟩
 have c1:¬r1 < 0:=by omega
 exact⟨r1,gOf s50 rfl (by simp -implicitDefEqProofs only [go_sem,t50,w0,c0,f1,c1]),.inr ⟨by omega,by simp only[szC,D.sz];omega⟩⟩
theorem szL_Step_s{es:List (List D)}(hB:es.length≤maxLen)(ok:OkE maxLen 9 es)(he:∀e∈es,∀l:Int,0≤l→l≤1048576→∃r,G 50 (e++[.int .i64 l])=some (0,[.int .i64 r])∧Lz (szC e) l r):∀l:Int,0≤l→l≤1048576→∃r,G 51 [.list 2 false es,.int .i64 l]=some (0,[.int .i64 r])∧Lz (es.length+szE es) l r:=by
 intro l h0 h1;have w:IntKind.i64.wrap (l - (es.length:Int))=l - (es.length:Int):=wrap_i64 (by simp only[maxLen]at hB;omega);by_cases c:l - (es.length:Int) < 0
 ·exact⟨-1,gOf s51 rfl (by simp -implicitDefEqProofs only [go_sem,t51,w,c]),.inl rfl⟩
 have hl:es.length≤mg:=by simp only[mg];omega
 have hg:=gl_sz (b:=lB G l51_0) es (fun n i=>(0,[.list 2 false es,.int .i64 n,.int .i64 (i:Int)])) (0,[.int .i64 (-1)]) (fun n=>(1,[.list 2 false es,.int .i64 n,.int .i64 es.length,.bool false])) (by
  intro i e n hn h0 h1;have hi:=nth_len hn;have hw:=wj hi hl;have oe:=ok.mem e (nth_in hn);obtain⟨r,f,h⟩:=he e (nth_in hn) n h0 h1;obtain⟨x0,x1,rfl,b0,⟨b1,c1⟩⟩:=inv_Step oe;have hh:evPO (.has 2) [.list 0 false [[.str x0,.list 2 true x1]]]=some (.bool false):=rfl;simp only[List.cons_append,List.nil_append]at f;rcases h with rfl|⟨p,q⟩
  ·exact .inl (by simp -implicitDefEqProofs only [go_sem,lB_,l51_0,hi,hn,hh,f])
  ·have c:¬r < 0:=by omega
   exact .inr ⟨r,p,q,by simp -implicitDefEqProofs only [go_sem,lB_,l51_0,hi,hn,hh,f,hw,c]⟩
  ) (by
  intro n;simp -implicitDefEqProofs only [go_sem,lB_,l51_0,Nat.lt_irrefl]) es.length 0 (l - (es.length:Int)) (by omega) (by omega) (by omega)
 rw[n0]at hg;rcases hg with g|⟨r,p,q,g⟩
 ·exact⟨-1,gOf s51 rfl (by simp -implicitDefEqProofs only [go_sem,t51,w,c,g]),.inl rfl⟩
 ·rw[List.drop_zero]at q;exact⟨r,gOf s51 rfl (by simp -implicitDefEqProofs only [go_sem,t51,w,c,g]),.inr ⟨p,by omega⟩⟩
theorem szL_Step{es:List (List D)}(hB:es.length≤maxLen)(ok:OkE maxLen 9 es):∀l:Int,0≤l→l≤1048576→∃r,G 51 [.list 2 false es,.int .i64 l]=some (0,[.int .i64 r])∧Lz (es.length+szE es) l r:=szL_Step_s hB ok fun e he=>szC_Step (ok.mem e he)
theorem szC_Path{e:List D}(ok:OkC maxLen (lay 10) e):∀l:Int,0≤l→l≤1048576→∃r,G 52 (e++[.int .i64 l])=some (0,[.int .i64 r])∧Lz (szC e) l r:=by
 intro l h0 h1;obtain⟨x0,x1,x2,rfl,_,_,⟨b2,c2⟩⟩:=inv_Path ok;obtain⟨r2,f2,h2⟩:=szL_Step b2 c2 l (by omega) (by omega);rcases h2 with rfl|⟨p2,q2⟩
 ·exact⟨-1,gOf s52 rfl (by simp -implicitDefEqProofs only [go_sem,t52,f2]),.inl rfl⟩
 have c2:¬r2 < 0:=by omega
 exact⟨r2,gOf s52 rfl (by simp -implicitDefEqProofs only [go_sem,t52,f2,c2]),.inr ⟨by omega,by simp only[szC,D.sz];omega⟩⟩
theorem szC_Expr{e:List D}(ok:OkC maxLen (lay 11) e)(ih:∀xs,.list 7 false xs∈e→∀l:Int,0≤l→l≤1048576→∃r,G 54 [.list 7 false xs,.int .i64 l]=some (0,[.int .i64 r])∧Lz (xs.length+szE xs) l r):∀l:Int,0≤l→l≤1048576→∃r,G 53 (e++[.int .i64 l])=some (0,[.int .i64 r])∧Lz (szC e) l r:=by
 intro l h0 h1;obtain⟨x0,x1,x2,x3,x4,x5,x6,rfl,_,_,b2,_,_,⟨b5,c5⟩,⟨b6,c6⟩⟩:=inv_Expr ok;have w2:IntKind.i64.wrap (l - (x2.size:Int))=l - (x2.size:Int):=wrap_i64 (by simp only[maxLen]at b2;omega);by_cases c2:l - (x2.size:Int) < 0
 ·exact⟨-1,gOf s53 rfl (by simp -implicitDefEqProofs only [go_sem,t53,w2,c2]),.inl rfl⟩
 obtain⟨r3,f3,h3⟩:=szC_Path (OkC.sub 3 3 ok) (l - (x2.size:Int)) (by omega) (by omega);simp only[List.drop_succ_cons,List.drop_zero,List.take_succ_cons,List.take_zero,List.cons_append,List.nil_append]at f3 h3;rcases h3 with rfl|⟨p3,q3⟩
 ·exact⟨-1,gOf s53 rfl (by simp -implicitDefEqProofs only [go_sem,t53,w2,c2,f3]),.inl rfl⟩
 have c3:¬r3 < 0:=by omega
 simp only[szC,D.sz]at q3;obtain⟨r6,f6,h6⟩:=ih x6 (by simp only[List.mem_cons,true_or,or_true]) r3 (by omega) (by omega);rcases h6 with rfl|⟨p6,q6⟩
 ·exact⟨-1,gOf s53 rfl (by simp -implicitDefEqProofs only [go_sem,t53,w2,c2,f3,c3,f6]),.inl rfl⟩
 have c6:¬r6 < 0:=by omega
 exact⟨r6,gOf s53 rfl (by simp -implicitDefEqProofs only [go_sem,t53,w2,c2,f3,c3,f6,c6]),.inr ⟨by omega,by simp only[szC,D.sz];omega⟩⟩
theorem szL_Expr_s{es:List (List D)}(hB:es.length≤maxLen)(ok:OkE maxLen 11 es)(he:∀e∈es,∀l:Int,0≤l→l≤1048576→∃r,G 53 (e++[.int .i64 l])=some (0,[.int .i64 r])∧Lz (szC e) l r):∀l:Int,0≤l→l≤1048576→∃r,G 54 [.list 7 false es,.int .i64 l]=some (0,[.int .i64 r])∧Lz (es.length+szE es) l r:=by
 intro l h0 h1;have w:IntKind.i64.wrap (l - (es.length:Int))=l - (es.length:Int):=wrap_i64 (by simp only[maxLen]at hB;omega);by_cases c:l - (es.length:Int) < 0
 ·exact⟨-1,gOf s54 rfl (by simp -implicitDefEqProofs only [go_sem,t54,w,c]),.inl rfl⟩
 have hl:es.length≤mg:=by simp only[mg];omega
 have hg:=gl_sz (b:=lB G l54_0) es (fun n i=>(0,[.list 7 false es,.int .i64 n,.int .i64 (i:Int)])) (0,[.int .i64 (-1)]) (fun n=>(1,[.list 7 false es,.int .i64 n,.int .i64 es.length,.bool false])) (by
  intro i e n hn h0 h1;have hi:=nth_len hn;have hw:=wj hi hl;have oe:=ok.mem e (nth_in hn);obtain⟨r,f,h⟩:=he e (nth_in hn) n h0 h1;obtain⟨x0,x1,x2,x3,x4,x5,x6,rfl,_,_,b2,_,_,⟨b5,c5⟩,⟨b6,c6⟩⟩:=inv_Expr oe;have hh:evPO (.has 7) [.list 0 false [[.int .i64 x0,.int .i64 x1,.str x2,.bool x3,.int .i64 x4,.list 2 false x5,.list 7 false x6]]]=some (.bool false):=rfl;simp only[List.cons_append,List.nil_append]at f;rcases h with rfl|⟨p,q⟩
  ·exact .inl (by simp -implicitDefEqProofs only [go_sem,lB_,l54_0,hi,hn,hh,f])
  ·have c:¬r < 0:=by omega
   exact .inr ⟨r,p,q,by simp -implicitDefEqProofs only [go_sem,lB_,l54_0,hi,hn,hh,f,hw,c]⟩
  ) (by
  intro n;simp -implicitDefEqProofs only [go_sem,lB_,l54_0,Nat.lt_irrefl]) es.length 0 (l - (es.length:Int)) (by omega) (by omega) (by omega)
 rw[n0]at hg;rcases hg with g|⟨r,p,q,g⟩
 ·exact⟨-1,gOf s54 rfl (by simp -implicitDefEqProofs only [go_sem,t54,w,c,g]),.inl rfl⟩
 ·rw[List.drop_zero]at q;exact⟨r,gOf s54 rfl (by simp -implicitDefEqProofs only [go_sem,t54,w,c,g]),.inr ⟨p,by omega⟩⟩
theorem szL_Expr_n(m:Nat):∀es:List (List D),SizeOf.sizeOf es < m→es.length≤maxLen→OkE maxLen 11 es→∀l:Int,0≤l→l≤1048576→∃r,G 54 [.list 7 false es,.int .i64 l]=some (0,[.int .i64 r])∧Lz (es.length+szE es) l r:=by
 induction m with
 |zero=>intro es h;omega
 |succ m ih=>
  intro es hz hB ok;refine szL_Expr_s hB ok fun e he=>szC_Expr (ok.mem e he) fun xs hx=>?_;obtain⟨b,c⟩:=kid_Expr (ok.mem e he) hx;exact ih xs (by have:=size_kid he hx;omega) b c
theorem szL_Expr{es:List (List D)}(hB:es.length≤maxLen)(ok:OkE maxLen 11 es):∀l:Int,0≤l→l≤1048576→∃r,G 54 [.list 7 false es,.int .i64 l]=some (0,[.int .i64 r])∧Lz (es.length+szE es) l r:=szL_Expr_n _ es (Nat.lt_succ_self _) hB ok
theorem szC_Schema{e:List D}(ok:OkC maxLen (lay 12) e)(ih:∀xs,.list 19 false xs∈e→∀l:Int,0≤l→l≤1048576→∃r,G 56 [.list 19 false xs,.int .i64 l]=some (0,[.int .i64 r])∧Lz (xs.length+szE xs) l r):∀l:Int,0≤l→l≤1048576→∃r,G 55 (e++[.int .i64 l])=some (0,[.int .i64 r])∧Lz (szC e) l r:=by
 intro l h0 h1;obtain⟨x0,x1,x2,x3,x4,x5,x6,x7,x8,x9,x10,x11,x12,x13,x14,x15,x16,x17,x18,rfl,_,b1,_,⟨b3,c3⟩,⟨b4,c4⟩,b5,b6,⟨b7,c7⟩,⟨b8,c8⟩,b9,_,_,_,_,_,_,⟨b16,c16⟩,⟨b17,c17⟩,⟨b18,c18⟩⟩:=inv_Schema ok;have w1:IntKind.i64.wrap (l - (x1.size:Int))=l - (x1.size:Int):=wrap_i64 (by simp only[maxLen]at b1;omega);by_cases c1:l - (x1.size:Int) < 0
 ·exact⟨-1,gOf s55 rfl (by simp -implicitDefEqProofs only [go_sem,t55,w1,c1]),.inl rfl⟩
 obtain⟨r2,f2,h2⟩:=szC_Type (OkC.sub 2 5 ok) (l - (x1.size:Int)) (by omega) (by omega);simp only[List.drop_succ_cons,List.drop_zero,List.take_succ_cons,List.take_zero,List.cons_append,List.nil_append]at f2 h2;rcases h2 with rfl|⟨p2,q2⟩
 ·exact⟨-1,gOf s55 rfl (by simp -implicitDefEqProofs only [go_sem,t55,w1,c1,f2]),.inl rfl⟩
 have c2:¬r2 < 0:=by omega
 simp only[szC,D.sz]at q2;obtain⟨r7,f7,h7⟩:=szL_str b7 c7 r2 (by omega) (by omega);rcases h7 with rfl|⟨p7,q7⟩
 ·exact⟨-1,gOf s55 rfl (by simp -implicitDefEqProofs only [go_sem,t55,w1,c1,f2,c2,f7]),.inl rfl⟩
 have c7:¬r7 < 0:=by omega
 obtain⟨r8,f8,h8⟩:=szL_str b8 c8 r7 (by omega) (by omega);rcases h8 with rfl|⟨p8,q8⟩
 ·exact⟨-1,gOf s55 rfl (by simp -implicitDefEqProofs only [go_sem,t55,w1,c1,f2,c2,f7,c7,f8]),.inl rfl⟩
 have c8:¬r8 < 0:=by omega
 have w9:IntKind.i64.wrap (r8 - (x9.size:Int))=r8 - (x9.size:Int):=wrap_i64 (by simp only[maxLen]at b9;omega);by_cases c9:r8 - (x9.size:Int) < 0
 ·exact⟨-1,gOf s55 rfl (by simp -implicitDefEqProofs only [go_sem,t55,w1,c1,f2,c2,f7,c7,f8,c8,w9,c9]),.inl rfl⟩
 obtain⟨r16,f16,h16⟩:=szL_Expr b16 c16 (r8 - (x9.size:Int)) (by omega) (by omega);rcases h16 with rfl|⟨p16,q16⟩
 ·exact⟨-1,gOf s55 rfl (by simp -implicitDefEqProofs only [go_sem,t55,w1,c1,f2,c2,f7,c7,f8,c8,w9,c9,f16]),.inl rfl⟩
 have c16:¬r16 < 0:=by omega
 obtain⟨r17,f17,h17⟩:=szL_Expr b17 c17 r16 (by omega) (by omega);rcases h17 with rfl|⟨p17,q17⟩
 ·exact⟨-1,gOf s55 rfl (by simp -implicitDefEqProofs only [go_sem,t55,w1,c1,f2,c2,f7,c7,f8,c8,w9,c9,f16,c16,f17]),.inl rfl⟩
 have c17:¬r17 < 0:=by omega
 obtain⟨r18,f18,h18⟩:=ih x18 (by simp only[List.mem_cons,true_or,or_true]) r17 (by omega) (by omega);rcases h18 with rfl|⟨p18,q18⟩
 ·exact⟨-1,gOf s55 rfl (by simp -implicitDefEqProofs only [go_sem,t55,w1,c1,f2,c2,f7,c7,f8,c8,w9,c9,f16,c16,f17,c17,f18]),.inl rfl⟩
 have c18:¬r18 < 0:=by omega
 exact⟨r18,gOf s55 rfl (by simp -implicitDefEqProofs only [go_sem,t55,w1,c1,f2,c2,f7,c7,f8,c8,w9,c9,f16,c16,f17,c17,f18,c18]),.inr ⟨by omega,by simp only[szC,D.sz];omega⟩⟩
theorem szL_Schema_s{es:List (List D)}(hB:es.length≤maxLen)(ok:OkE maxLen 12 es)(he:∀e∈es,∀l:Int,0≤l→l≤1048576→∃r,G 55 (e++[.int .i64 l])=some (0,[.int .i64 r])∧Lz (szC e) l r):∀l:Int,0≤l→l≤1048576→∃r,G 56 [.list 19 false es,.int .i64 l]=some (0,[.int .i64 r])∧Lz (es.length+szE es) l r:=by
 intro l h0 h1;have w:IntKind.i64.wrap (l - (es.length:Int))=l - (es.length:Int):=wrap_i64 (by simp only[maxLen]at hB;omega);by_cases c:l - (es.length:Int) < 0
 ·exact⟨-1,gOf s56 rfl (by simp -implicitDefEqProofs only [go_sem,t56,w,c]),.inl rfl⟩
 have hl:es.length≤mg:=by simp only[mg];omega
 have hg:=gl_sz (b:=lB G l56_0) es (fun n i=>(0,[.list 19 false es,.int .i64 n,.int .i64 (i:Int)])) (0,[.int .i64 (-1)]) (fun n=>(1,[.list 19 false es,.int .i64 n,.int .i64 es.length,.bool false])) (by
  intro i e n hn h0 h1;have hi:=nth_len hn;have hw:=wj hi hl;have oe:=ok.mem e (nth_in hn);obtain⟨r,f,h⟩:=he e (nth_in hn) n h0 h1;obtain⟨x0,x1,x2,x3,x4,x5,x6,x7,x8,x9,x10,x11,x12,x13,x14,x15,x16,x17,x18,rfl,_,b1,_,⟨b3,c3⟩,⟨b4,c4⟩,b5,b6,⟨b7,c7⟩,⟨b8,c8⟩,b9,_,_,_,_,_,_,⟨b16,c16⟩,⟨b17,c17⟩,⟨b18,c18⟩⟩:=inv_Schema oe;have hh:evPO (.has 19) [.list 0 false [[.int .i64 x0,.str x1,.int .i64 x2,.list 2 true x3,.list 1 true x4,.str x5,.str x6,.list 1 true x7,.list 1 true x8,.str x9,.bool x10,.bool x11,.bool x12,.bool x13,.int .i64 x14,.int .i64 x15,.list 7 false x16,.list 7 false x17,.list 19 false x18]]]=some (.bool false):=rfl;simp only[List.cons_append,List.nil_append]at f;rcases h with rfl|⟨p,q⟩
  ·exact .inl (by simp -implicitDefEqProofs only [go_sem,lB_,l56_0,hi,hn,hh,f])
  ·have c:¬r < 0:=by omega
   exact .inr ⟨r,p,q,by simp -implicitDefEqProofs only [go_sem,lB_,l56_0,hi,hn,hh,f,hw,c]⟩
  ) (by
  intro n;simp -implicitDefEqProofs only [go_sem,lB_,l56_0,Nat.lt_irrefl]) es.length 0 (l - (es.length:Int)) (by omega) (by omega) (by omega)
 rw[n0]at hg;rcases hg with g|⟨r,p,q,g⟩
 ·exact⟨-1,gOf s56 rfl (by simp -implicitDefEqProofs only [go_sem,t56,w,c,g]),.inl rfl⟩
 ·rw[List.drop_zero]at q;exact⟨r,gOf s56 rfl (by simp -implicitDefEqProofs only [go_sem,t56,w,c,g]),.inr ⟨p,by omega⟩⟩
theorem szL_Schema_n(m:Nat):∀es:List (List D),SizeOf.sizeOf es < m→es.length≤maxLen→OkE maxLen 12 es→∀l:Int,0≤l→l≤1048576→∃r,G 56 [.list 19 false es,.int .i64 l]=some (0,[.int .i64 r])∧Lz (es.length+szE es) l r:=by
 induction m with
 |zero=>intro es h;omega
 |succ m ih=>
  intro es hz hB ok;refine szL_Schema_s hB ok fun e he=>szC_Schema (ok.mem e he) fun xs hx=>?_;obtain⟨b,c⟩:=kid_Schema (ok.mem e he) hx;exact ih xs (by have:=size_kid he hx;omega) b c
theorem szL_Schema{es:List (List D)}(hB:es.length≤maxLen)(ok:OkE maxLen 12 es):∀l:Int,0≤l→l≤1048576→∃r,G 56 [.list 19 false es,.int .i64 l]=some (0,[.int .i64 r])∧Lz (es.length+szE es) l r:=szL_Schema_n _ es (Nat.lt_succ_self _) hB ok
end
section
set_option maxRecDepth 100000
set_option maxHeartbeats 4000000
theorem toL_str{es:List (List D)}(hl:es.length≤mg)(ok:OkE mg 0 es):G 61 [.list 1 true es]=some (0,[.list 1 true es]):=by
 have h:=gl_to (b:=lB G l61_0) es (([zS []]:List SK).map SK.d) (fun i acc=>(0,[.list 1 true es,.int .i64 (i:Int),.list 1 true acc])) (fun acc=>(0,[.list 1 true es,.int .i64 es.length,.bool false,.list 1 true acc])) (by
  intro i e acc hn hz;have hi:=nth_len hn;have hw:=wj hi hl;have oe:=ok.mem e (nth_in hn);obtain⟨x0,rfl,b0⟩:=inv_str oe;have hc:=po_chk 1 true acc i (nth_len hz);have hs:=po_set (fl:=true) (k:=1) (ds:=[.str x0]) hz rfl rfl (fun _=>rfl);have hh:evPO (.has 1) [.list 0 false [[.str x0]]]=some (.bool false):=rfl;have hp:evPO .pl [.str x0]=some (.bool false):=rfl;simp -implicitDefEqProofs only [go_sem,lB_,l61_0,hi,hn,hw,hc,hs]) (by
  intro acc;simp -implicitDefEqProofs only [go_sem,lB_,l61_0,Nat.lt_irrefl])
 have hm:=fun by_ hb=>po_make (k:=1) (fl:=true) (by_:=by_) (zs:=[zS []]) hl hb;have hm:=hm 16 (by omega);rw[n0]at h;simp -implicitDefEqProofs only [go_sem]at h
 exact gOf s61 rfl (by simp -implicitDefEqProofs only [go_sem,t61,hm,h])
theorem eqL_str{es:List (List D)}(hl:es.length≤mg)(ok:OkE mg 0 es):G 110 [.list 1 true es,.list 1 true es]=some (0,[.bool true]):=by
 have h:=gl_all (b:=lB G l110_0) es (fun i=>(0,[.list 1 true es,.list 1 true es,.int .i64 (i:Int)])) (fun _=>true) (1,[.list 1 true es,.list 1 true es,.int .i64 es.length,.bool false]) (0,[.bool false]) (by
  intro i e hn;have hi:=nth_len hn;have hw:=wj hi hl;have oe:=ok.mem e (nth_in hn);obtain⟨x0,rfl,b0⟩:=inv_str oe;have hh:evPO (.has 1) [.list 0 false [[.str x0]]]=some (.bool false):=rfl;simp -implicitDefEqProofs only [go_sem,lB_,l110_0,hi,hn,hw]) (by simp -implicitDefEqProofs only [go_sem,lB_,l110_0,Nat.lt_irrefl])
 rw[n0]at h;have ha:(es.all fun _=>true)=true:=by simp
 rw[ha]at h;simp -implicitDefEqProofs only [go_sem]at h
 exact gOf s110 rfl (by simp -implicitDefEqProofs only [go_sem,t110,h])
theorem toC_Node{e:List D}(ok:OkC mg (lay 2) e)(ih:∀xs,.list 3 false xs∈e→G 6 [.list 3 false xs]=some (0,[.list 3 false xs])):G 5 e=some (0,e):=by
 obtain⟨x0,x1,x2,rfl,b0,b1,⟨b2,c2⟩⟩:=inv_Node ok;have f2:=ih x2 (by simp only[List.mem_cons,true_or,or_true]);exact gOf s5 rfl (by simp -implicitDefEqProofs only [go_sem,t5,f2])
theorem toL_Node_s{es:List (List D)}(hl:es.length≤mg)(ok:OkE mg 2 es)(he:∀e∈es,G 5 e=some (0,e)):G 6 [.list 3 false es]=some (0,[.list 3 false es]):=by
 have h:=gl_to (b:=lB G l6_0) es (([zS [],zS [],zL 3 false]:List SK).map SK.d) (fun i acc=>(0,[.list 3 false es,.int .i64 (i:Int),.list 3 false acc])) (fun acc=>(0,[.list 3 false es,.int .i64 es.length,.bool false,.list 3 false acc])) (by
  intro i e acc hn hz;have hi:=nth_len hn;have hw:=wj hi hl;have oe:=ok.mem e (nth_in hn);have f:=he e (nth_in hn);obtain⟨x0,x1,x2,rfl,b0,b1,⟨b2,c2⟩⟩:=inv_Node oe;have hc:=po_chk 3 false acc i (nth_len hz);have hs:=po_set (fl:=false) (k:=3) (ds:=[.str x0,.str x1,.list 3 false x2]) hz rfl rfl (fun h=>by cases h);have hh:evPO (.has 3) [.list 0 false [[.str x0,.str x1,.list 3 false x2]]]=some (.bool false):=rfl;have hp:evPO .pl [.str x0,.str x1]=some (.bool false):=rfl;simp -implicitDefEqProofs only [go_sem,lB_,l6_0,hi,hn,hh,f,hw,hc,hs,hp]) (by
  intro acc;simp -implicitDefEqProofs only [go_sem,lB_,l6_0,Nat.lt_irrefl])
 have hm:=fun by_ hb=>po_make (k:=3) (fl:=false) (by_:=by_) (zs:=[zS [],zS [],zL 3 false]) hl hb;have hm:=hm 56 (by omega);rw[n0]at h;simp -implicitDefEqProofs only [go_sem]at h
 exact gOf s6 rfl (by simp -implicitDefEqProofs only [go_sem,t6,hm,h])
theorem toL_Node_n(m:Nat):∀es:List (List D),SizeOf.sizeOf es < m→es.length≤mg→OkE mg 2 es→G 6 [.list 3 false es]=some (0,[.list 3 false es]):=by
 induction m with
 |zero=>intro es h;omega
 |succ m ih=>
  intro es hz hB ok;refine toL_Node_s hB ok fun e he=>toC_Node (ok.mem e he) fun xs hx=>?_;obtain⟨b,c⟩:=kid_Node (ok.mem e he) hx;exact ih xs (by have:=size_kid he hx;omega) b c
theorem toL_Node{es:List (List D)}(hB:es.length≤mg)(ok:OkE mg 2 es):G 6 [.list 3 false es]=some (0,[.list 3 false es]):=toL_Node_n _ es (Nat.lt_succ_self _) hB ok
theorem eqC_Node{e:List D}(ok:OkC mg (lay 2) e)(ih:∀xs,.list 3 false xs∈e→G 10 [.list 3 false xs,.list 3 false xs]=some (0,[.bool true])):G 9 (e++e)=some (0,[.bool true]):=by
 obtain⟨x0,x1,x2,rfl,b0,b1,⟨b2,c2⟩⟩:=inv_Node ok;have f2:=ih x2 (by simp only[List.mem_cons,true_or,or_true]);exact gOf s9 rfl (by simp -implicitDefEqProofs only [go_sem,t9,f2])
theorem eqL_Node_s{es:List (List D)}(hl:es.length≤mg)(ok:OkE mg 2 es)(he:∀e∈es,G 9 (e++e)=some (0,[.bool true])):G 10 [.list 3 false es,.list 3 false es]=some (0,[.bool true]):=by
 have h:=gl_all (b:=lB G l10_0) es (fun i=>(0,[.list 3 false es,.list 3 false es,.int .i64 (i:Int)])) (fun _=>true) (1,[.list 3 false es,.list 3 false es,.int .i64 es.length,.bool false]) (0,[.bool false]) (by
  intro i e hn;have hi:=nth_len hn;have hw:=wj hi hl;have oe:=ok.mem e (nth_in hn);have f:=he e (nth_in hn);obtain⟨x0,x1,x2,rfl,b0,b1,⟨b2,c2⟩⟩:=inv_Node oe;have hh:evPO (.has 3) [.list 0 false [[.str x0,.str x1,.list 3 false x2]]]=some (.bool false):=rfl;simp only[List.cons_append,List.nil_append]at f;simp -implicitDefEqProofs only [go_sem,lB_,l10_0,hi,hn,hh,f,hw]) (by simp -implicitDefEqProofs only [go_sem,lB_,l10_0,Nat.lt_irrefl])
 rw[n0]at h;have ha:(es.all fun _=>true)=true:=by simp
 rw[ha]at h;simp -implicitDefEqProofs only [go_sem]at h
 exact gOf s10 rfl (by simp -implicitDefEqProofs only [go_sem,t10,h])
theorem eqL_Node_n(m:Nat):∀es:List (List D),SizeOf.sizeOf es < m→es.length≤mg→OkE mg 2 es→G 10 [.list 3 false es,.list 3 false es]=some (0,[.bool true]):=by
 induction m with
 |zero=>intro es h;omega
 |succ m ih=>
  intro es hz hB ok;refine eqL_Node_s hB ok fun e he=>eqC_Node (ok.mem e he) fun xs hx=>?_;obtain⟨b,c⟩:=kid_Node (ok.mem e he) hx;exact ih xs (by have:=size_kid he hx;omega) b c
theorem eqL_Node{es:List (List D)}(hB:es.length≤mg)(ok:OkE mg 2 es):G 10 [.list 3 false es,.list 3 false es]=some (0,[.bool true]):=eqL_Node_n _ es (Nat.lt_succ_self _) hB ok
theorem toC_Range{e:List D}(ok:OkC mg (lay 6) e):G 59 e=some (0,e):=by
 obtain⟨x0,x1,rfl,_,_⟩:=inv_Range ok;exact gOf s59 rfl (by simp -implicitDefEqProofs only [go_sem,t59,])
theorem toL_Range_s{es:List (List D)}(hl:es.length≤mg)(ok:OkE mg 6 es)(he:∀e∈es,G 59 e=some (0,e)):G 60 [.list 2 true es]=some (0,[.list 2 true es]):=by
 have h:=gl_to (b:=lB G l60_0) es (([zI 0,zI 0]:List SK).map SK.d) (fun i acc=>(0,[.list 2 true es,.int .i64 (i:Int),.list 2 true acc])) (fun acc=>(0,[.list 2 true es,.int .i64 es.length,.bool false,.list 2 true acc])) (by
  intro i e acc hn hz;have hi:=nth_len hn;have hw:=wj hi hl;have oe:=ok.mem e (nth_in hn);have f:=he e (nth_in hn);obtain⟨x0,x1,rfl,_,_⟩:=inv_Range oe;have hc:=po_chk 2 true acc i (nth_len hz);have hs:=po_set (fl:=true) (k:=2) (ds:=[.int .i64 x0,.int .i64 x1]) hz rfl rfl (fun _=>rfl);have hh:evPO (.has 2) [.list 0 false [[.int .i64 x0,.int .i64 x1]]]=some (.bool false):=rfl;have hp:evPO .pl [.int .i64 x0,.int .i64 x1]=some (.bool false):=rfl;simp -implicitDefEqProofs only [go_sem,lB_,l60_0,hi,hn,hh,f,hw,hc,hs]) (by
  intro acc;simp -implicitDefEqProofs only [go_sem,lB_,l60_0,Nat.lt_irrefl])
 have hm:=fun by_ hb=>po_make (k:=2) (fl:=true) (by_:=by_) (zs:=[zI 0,zI 0]) hl hb;have hm:=hm 16 (by omega);rw[n0]at h;simp -implicitDefEqProofs only [go_sem]at h
 exact gOf s60 rfl (by simp -implicitDefEqProofs only [go_sem,t60,hm,h])
theorem toL_Range{es:List (List D)}(hB:es.length≤mg)(ok:OkE mg 6 es):G 60 [.list 2 true es]=some (0,[.list 2 true es]):=toL_Range_s hB ok fun e he=>toC_Range (ok.mem e he)
theorem eqC_Range{e:List D}(ok:OkC mg (lay 6) e):G 108 (e++e)=some (0,[.bool true]):=by
 obtain⟨x0,x1,rfl,_,_⟩:=inv_Range ok;exact gOf s108 rfl (by simp -implicitDefEqProofs only [go_sem,t108])
theorem eqL_Range_s{es:List (List D)}(hl:es.length≤mg)(ok:OkE mg 6 es)(he:∀e∈es,G 108 (e++e)=some (0,[.bool true])):G 109 [.list 2 true es,.list 2 true es]=some (0,[.bool true]):=by
 have h:=gl_all (b:=lB G l109_0) es (fun i=>(0,[.list 2 true es,.list 2 true es,.int .i64 (i:Int)])) (fun _=>true) (1,[.list 2 true es,.list 2 true es,.int .i64 es.length,.bool false]) (0,[.bool false]) (by
  intro i e hn;have hi:=nth_len hn;have hw:=wj hi hl;have oe:=ok.mem e (nth_in hn);have f:=he e (nth_in hn);obtain⟨x0,x1,rfl,_,_⟩:=inv_Range oe;have hh:evPO (.has 2) [.list 0 false [[.int .i64 x0,.int .i64 x1]]]=some (.bool false):=rfl;simp only[List.cons_append,List.nil_append]at f;simp -implicitDefEqProofs only [go_sem,lB_,l109_0,hi,hn,hh,f,hw]) (by simp -implicitDefEqProofs only [go_sem,lB_,l109_0,Nat.lt_irrefl])
 rw[n0]at h;have ha:(es.all fun _=>true)=true:=by simp
 rw[ha]at h;simp -implicitDefEqProofs only [go_sem]at h
 exact gOf s109 rfl (by simp -implicitDefEqProofs only [go_sem,t109,h])
theorem eqL_Range{es:List (List D)}(hB:es.length≤mg)(ok:OkE mg 6 es):G 109 [.list 2 true es,.list 2 true es]=some (0,[.bool true]):=eqL_Range_s hB ok fun e he=>eqC_Range (ok.mem e he)
theorem toC_Type{e:List D}(ok:OkC mg (lay 7) e):G 62 e=some (0,e):=by
 obtain⟨x0,x1,x2,x3,x4,rfl,_,⟨b1,c1⟩,⟨b2,c2⟩,b3,b4⟩:=inv_Type ok;have f1:=toL_Range b1 c1;have f2:=toL_str b2 c2;exact gOf s62 rfl (by simp -implicitDefEqProofs only [go_sem,t62,f1,f2])
theorem eqC_Type{e:List D}(ok:OkC mg (lay 7) e):G 111 (e++e)=some (0,[.bool true]):=by
 obtain⟨x0,x1,x2,x3,x4,rfl,_,⟨b1,c1⟩,⟨b2,c2⟩,b3,b4⟩:=inv_Type ok;have f1:=eqL_Range b1 c1;have f2:=eqL_str b2 c2;exact gOf s111 rfl (by simp -implicitDefEqProofs only [go_sem,t111,f1,f2])
theorem toC_Test{e:List D}(ok:OkC mg (lay 8) e):G 63 e=some (0,e):=by
 obtain⟨x0,x1,rfl,b0,b1⟩:=inv_Test ok;exact gOf s63 rfl (by simp -implicitDefEqProofs only [go_sem,t63,])
theorem toL_Test_s{es:List (List D)}(hl:es.length≤mg)(ok:OkE mg 8 es)(he:∀e∈es,G 63 e=some (0,e)):G 64 [.list 2 true es]=some (0,[.list 2 true es]):=by
 have h:=gl_to (b:=lB G l64_0) es (([zS [],zS []]:List SK).map SK.d) (fun i acc=>(0,[.list 2 true es,.int .i64 (i:Int),.list 2 true acc])) (fun acc=>(0,[.list 2 true es,.int .i64 es.length,.bool false,.list 2 true acc])) (by
  intro i e acc hn hz;have hi:=nth_len hn;have hw:=wj hi hl;have oe:=ok.mem e (nth_in hn);have f:=he e (nth_in hn);obtain⟨x0,x1,rfl,b0,b1⟩:=inv_Test oe;have hc:=po_chk 2 true acc i (nth_len hz);have hs:=po_set (fl:=true) (k:=2) (ds:=[.str x0,.str x1]) hz rfl rfl (fun _=>rfl);have hh:evPO (.has 2) [.list 0 false [[.str x0,.str x1]]]=some (.bool false):=rfl;have hp:evPO .pl [.str x0,.str x1]=some (.bool false):=rfl;simp -implicitDefEqProofs only [go_sem,lB_,l64_0,hi,hn,hh,f,hw,hc,hs]) (by
  intro acc;simp -implicitDefEqProofs only [go_sem,lB_,l64_0,Nat.lt_irrefl])
 have hm:=fun by_ hb=>po_make (k:=2) (fl:=true) (by_:=by_) (zs:=[zS [],zS []]) hl hb;have hm:=hm 32 (by omega);rw[n0]at h;simp -implicitDefEqProofs only [go_sem]at h
 exact gOf s64 rfl (by simp -implicitDefEqProofs only [go_sem,t64,hm,h])
theorem toL_Test{es:List (List D)}(hB:es.length≤mg)(ok:OkE mg 8 es):G 64 [.list 2 true es]=some (0,[.list 2 true es]):=toL_Test_s hB ok fun e he=>toC_Test (ok.mem e he)
theorem eqC_Test{e:List D}(ok:OkC mg (lay 8) e):G 112 (e++e)=some (0,[.bool true]):=by
 obtain⟨x0,x1,rfl,b0,b1⟩:=inv_Test ok;exact gOf s112 rfl (by simp -implicitDefEqProofs only [go_sem,t112])
theorem eqL_Test_s{es:List (List D)}(hl:es.length≤mg)(ok:OkE mg 8 es)(he:∀e∈es,G 112 (e++e)=some (0,[.bool true])):G 113 [.list 2 true es,.list 2 true es]=some (0,[.bool true]):=by
 have h:=gl_all (b:=lB G l113_0) es (fun i=>(0,[.list 2 true es,.list 2 true es,.int .i64 (i:Int)])) (fun _=>true) (1,[.list 2 true es,.list 2 true es,.int .i64 es.length,.bool false]) (0,[.bool false]) (by
  intro i e hn;have hi:=nth_len hn;have hw:=wj hi hl;have oe:=ok.mem e (nth_in hn);have f:=he e (nth_in hn);obtain⟨x0,x1,rfl,b0,b1⟩:=inv_Test oe;have hh:evPO (.has 2) [.list 0 false [[.str x0,.str x1]]]=some (.bool false):=rfl;simp only[List.cons_append,List.nil_append]at f;simp -implicitDefEqProofs only [go_sem,lB_,l113_0,hi,hn,hh,f,hw]) (by simp -implicitDefEqProofs only [go_sem,lB_,l113_0,Nat.lt_irrefl])
 rw[n0]at h;have ha:(es.all fun _=>true)=true:=by simp
 rw[ha]at h;simp -implicitDefEqProofs only [go_sem]at h
 exact gOf s113 rfl (by simp -implicitDefEqProofs only [go_sem,t113,h])
theorem eqL_Test{es:List (List D)}(hB:es.length≤mg)(ok:OkE mg 8 es):G 113 [.list 2 true es,.list 2 true es]=some (0,[.bool true]):=eqL_Test_s hB ok fun e he=>eqC_Test (ok.mem e he)
theorem toC_Step{e:List D}(ok:OkC mg (lay 9) e):G 65 e=some (0,e):=by
 obtain⟨x0,x1,rfl,b0,⟨b1,c1⟩⟩:=inv_Step ok;have f1:=toL_Test b1 c1;exact gOf s65 rfl (by simp -implicitDefEqProofs only [go_sem,t65,f1])
theorem toL_Step_s{es:List (List D)}(hl:es.length≤mg)(ok:OkE mg 9 es)(he:∀e∈es,G 65 e=some (0,e)):G 66 [.list 2 false es]=some (0,[.list 2 false es]):=by
 have h:=gl_to (b:=lB G l66_0) es (([zS [],zL 2 true]:List SK).map SK.d) (fun i acc=>(0,[.list 2 false es,.int .i64 (i:Int),.list 2 false acc])) (fun acc=>(0,[.list 2 false es,.int .i64 es.length,.bool false,.list 2 false acc])) (by
  intro i e acc hn hz;have hi:=nth_len hn;have hw:=wj hi hl;have oe:=ok.mem e (nth_in hn);have f:=he e (nth_in hn);obtain⟨x0,x1,rfl,b0,⟨b1,c1⟩⟩:=inv_Step oe;have hc:=po_chk 2 false acc i (nth_len hz);have hs:=po_set (fl:=false) (k:=2) (ds:=[.str x0,.list 2 true x1]) hz rfl rfl (fun h=>by cases h);have hh:evPO (.has 2) [.list 0 false [[.str x0,.list 2 true x1]]]=some (.bool false):=rfl;have hp:evPO .pl [.str x0]=some (.bool false):=rfl;simp -implicitDefEqProofs only [go_sem,lB_,l66_0,hi,hn,hh,f,hw,hc,hs,hp]) (by
  intro acc;simp -implicitDefEqProofs only [go_sem,lB_,l66_0,Nat.lt_irrefl])
 have hm:=fun by_ hb=>po_make (k:=2) (fl:=false) (by_:=by_) (zs:=[zS [],zL 2 true]) hl hb;have hm:=hm 40 (by omega);rw[n0]at h;simp -implicitDefEqProofs only [go_sem]at h
 exact gOf s66 rfl (by simp -implicitDefEqProofs only [go_sem,t66,hm,h])
theorem toL_Step{es:List (List D)}(hB:es.length≤mg)(ok:OkE mg 9 es):G 66 [.list 2 false es]=some (0,[.list 2 false es]):=toL_Step_s hB ok fun e he=>toC_Step (ok.mem e he)
theorem eqC_Step{e:List D}(ok:OkC mg (lay 9) e):G 114 (e++e)=some (0,[.bool true]):=by
 obtain⟨x0,x1,rfl,b0,⟨b1,c1⟩⟩:=inv_Step ok;have f1:=eqL_Test b1 c1;exact gOf s114 rfl (by simp -implicitDefEqProofs only [go_sem,t114,f1])
theorem eqL_Step_s{es:List (List D)}(hl:es.length≤mg)(ok:OkE mg 9 es)(he:∀e∈es,G 114 (e++e)=some (0,[.bool true])):G 115 [.list 2 false es,.list 2 false es]=some (0,[.bool true]):=by
 have h:=gl_all (b:=lB G l115_0) es (fun i=>(0,[.list 2 false es,.list 2 false es,.int .i64 (i:Int)])) (fun _=>true) (1,[.list 2 false es,.list 2 false es,.int .i64 es.length,.bool false]) (0,[.bool false]) (by
  intro i e hn;have hi:=nth_len hn;have hw:=wj hi hl;have oe:=ok.mem e (nth_in hn);have f:=he e (nth_in hn);obtain⟨x0,x1,rfl,b0,⟨b1,c1⟩⟩:=inv_Step oe;have hh:evPO (.has 2) [.list 0 false [[.str x0,.list 2 true x1]]]=some (.bool false):=rfl;simp only[List.cons_append,List.nil_append]at f;simp -implicitDefEqProofs only [go_sem,lB_,l115_0,hi,hn,hh,f,hw]) (by simp -implicitDefEqProofs only [go_sem,lB_,l115_0,Nat.lt_irrefl])
 rw[n0]at h;have ha:(es.all fun _=>true)=true:=by simp
 rw[ha]at h;simp -implicitDefEqProofs only [go_sem]at h
 exact gOf s115 rfl (by simp -implicitDefEqProofs only [go_sem,t115,h])
theorem eqL_Step{es:List (List D)}(hB:es.length≤mg)(ok:OkE mg 9 es):G 115 [.list 2 false es,.list 2 false es]=some (0,[.bool true]):=eqL_Step_s hB ok fun e he=>eqC_Step (ok.mem e he)
theorem toC_Path{e:List D}(ok:OkC mg (lay 10) e):G 67 e=some (0,e):=by
 obtain⟨x0,x1,x2,rfl,_,_,⟨b2,c2⟩⟩:=inv_Path ok;have f2:=toL_Step b2 c2;exact gOf s67 rfl (by simp -implicitDefEqProofs only [go_sem,t67,f2])
theorem eqC_Path{e:List D}(ok:OkC mg (lay 10) e):G 116 (e++e)=some (0,[.bool true]):=by
 obtain⟨x0,x1,x2,rfl,_,_,⟨b2,c2⟩⟩:=inv_Path ok;have f2:=eqL_Step b2 c2;exact gOf s116 rfl (by simp -implicitDefEqProofs only [go_sem,t116,f2])
theorem toC_Expr{e:List D}(ok:OkC mg (lay 11) e)(ih:∀xs,.list 7 false xs∈e→G 69 [.list 7 false xs]=some (0,[.list 7 false xs])):G 68 e=some (0,e):=by
 obtain⟨x0,x1,x2,x3,x4,x5,x6,rfl,_,_,b2,_,_,⟨b5,c5⟩,⟨b6,c6⟩⟩:=inv_Expr ok;have f3:=toC_Path (OkC.sub 3 3 ok);simp only[List.drop_succ_cons,List.drop_zero,List.take_succ_cons,List.take_zero]at f3;have f6:=ih x6 (by simp only[List.mem_cons,true_or,or_true]);exact gOf s68 rfl (by simp -implicitDefEqProofs only [go_sem,t68,f3,f6])
theorem toL_Expr_s{es:List (List D)}(hl:es.length≤mg)(ok:OkE mg 11 es)(he:∀e∈es,G 68 e=some (0,e)):G 69 [.list 7 false es]=some (0,[.list 7 false es]):=by
 have h:=gl_to (b:=lB G l69_0) es (([zI 0,zI 0,zS [],zB false,zI 0,zL 2 false,zL 7 false]:List SK).map SK.d) (fun i acc=>(0,[.list 7 false es,.int .i64 (i:Int),.list 7 false acc])) (fun acc=>(0,[.list 7 false es,.int .i64 es.length,.bool false,.list 7 false acc])) (by
  intro i e acc hn hz;have hi:=nth_len hn;have hw:=wj hi hl;have oe:=ok.mem e (nth_in hn);have f:=he e (nth_in hn);obtain⟨x0,x1,x2,x3,x4,x5,x6,rfl,_,_,b2,_,_,⟨b5,c5⟩,⟨b6,c6⟩⟩:=inv_Expr oe;have hc:=po_chk 7 false acc i (nth_len hz);have hs:=po_set (fl:=false) (k:=7) (ds:=[.int .i64 x0,.int .i64 x1,.str x2,.bool x3,.int .i64 x4,.list 2 false x5,.list 7 false x6]) hz rfl rfl (fun h=>by cases h);have hh:evPO (.has 7) [.list 0 false [[.int .i64 x0,.int .i64 x1,.str x2,.bool x3,.int .i64 x4,.list 2 false x5,.list 7 false x6]]]=some (.bool false):=rfl;have hp:evPO .pl [.int .i64 x0,.int .i64 x1,.str x2,.bool x3,.int .i64 x4]=some (.bool false):=rfl;simp -implicitDefEqProofs only [go_sem,lB_,l69_0,hi,hn,hh,f,hw,hc,hs,hp]) (by
  intro acc;simp -implicitDefEqProofs only [go_sem,lB_,l69_0,Nat.lt_irrefl])
 have hm:=fun by_ hb=>po_make (k:=7) (fl:=false) (by_:=by_) (zs:=[zI 0,zI 0,zS [],zB false,zI 0,zL 2 false,zL 7 false]) hl hb;have hm:=hm 96 (by omega);rw[n0]at h;simp -implicitDefEqProofs only [go_sem]at h
 exact gOf s69 rfl (by simp -implicitDefEqProofs only [go_sem,t69,hm,h])
theorem toL_Expr_n(m:Nat):∀es:List (List D),SizeOf.sizeOf es < m→es.length≤mg→OkE mg 11 es→G 69 [.list 7 false es]=some (0,[.list 7 false es]):=by
 induction m with
 |zero=>intro es h;omega
 |succ m ih=>
  intro es hz hB ok;refine toL_Expr_s hB ok fun e he=>toC_Expr (ok.mem e he) fun xs hx=>?_;obtain⟨b,c⟩:=kid_Expr (ok.mem e he) hx;exact ih xs (by have:=size_kid he hx;omega) b c
theorem toL_Expr{es:List (List D)}(hB:es.length≤mg)(ok:OkE mg 11 es):G 69 [.list 7 false es]=some (0,[.list 7 false es]):=toL_Expr_n _ es (Nat.lt_succ_self _) hB ok
theorem eqC_Expr{e:List D}(ok:OkC mg (lay 11) e)(ih:∀xs,.list 7 false xs∈e→G 118 [.list 7 false xs,.list 7 false xs]=some (0,[.bool true])):G 117 (e++e)=some (0,[.bool true]):=by
 obtain⟨x0,x1,x2,x3,x4,x5,x6,rfl,_,_,b2,_,_,⟨b5,c5⟩,⟨b6,c6⟩⟩:=inv_Expr ok;have f3:=eqC_Path (OkC.sub 3 3 ok);simp only[List.drop_succ_cons,List.drop_zero,List.take_succ_cons,List.take_zero,List.cons_append,List.nil_append]at f3;have f6:=ih x6 (by simp only[List.mem_cons,true_or,or_true]);exact gOf s117 rfl (by simp -implicitDefEqProofs only [go_sem,t117,f3,f6])
theorem eqL_Expr_s{es:List (List D)}(hl:es.length≤mg)(ok:OkE mg 11 es)(he:∀e∈es,G 117 (e++e)=some (0,[.bool true])):G 118 [.list 7 false es,.list 7 false es]=some (0,[.bool true]):=by
 have h:=gl_all (b:=lB G l118_0) es (fun i=>(0,[.list 7 false es,.list 7 false es,.int .i64 (i:Int)])) (fun _=>true) (1,[.list 7 false es,.list 7 false es,.int .i64 es.length,.bool false]) (0,[.bool false]) (by
  intro i e hn;have hi:=nth_len hn;have hw:=wj hi hl;have oe:=ok.mem e (nth_in hn);have f:=he e (nth_in hn);obtain⟨x0,x1,x2,x3,x4,x5,x6,rfl,_,_,b2,_,_,⟨b5,c5⟩,⟨b6,c6⟩⟩:=inv_Expr oe;have hh:evPO (.has 7) [.list 0 false [[.int .i64 x0,.int .i64 x1,.str x2,.bool x3,.int .i64 x4,.list 2 false x5,.list 7 false x6]]]=some (.bool false):=rfl;simp only[List.cons_append,List.nil_append]at f;simp -implicitDefEqProofs only [go_sem,lB_,l118_0,hi,hn,hh,f,hw]) (by simp -implicitDefEqProofs only [go_sem,lB_,l118_0,Nat.lt_irrefl])
 rw[n0]at h;have ha:(es.all fun _=>true)=true:=by simp
 rw[ha]at h;simp -implicitDefEqProofs only [go_sem]at h
 exact gOf s118 rfl (by simp -implicitDefEqProofs only [go_sem,t118,h])
theorem eqL_Expr_n(m:Nat):∀es:List (List D),SizeOf.sizeOf es < m→es.length≤mg→OkE mg 11 es→G 118 [.list 7 false es,.list 7 false es]=some (0,[.bool true]):=by
 induction m with
 |zero=>intro es h;omega
 |succ m ih=>
  intro es hz hB ok;refine eqL_Expr_s hB ok fun e he=>eqC_Expr (ok.mem e he) fun xs hx=>?_;obtain⟨b,c⟩:=kid_Expr (ok.mem e he) hx;exact ih xs (by have:=size_kid he hx;omega) b c
theorem eqL_Expr{es:List (List D)}(hB:es.length≤mg)(ok:OkE mg 11 es):G 118 [.list 7 false es,.list 7 false es]=some (0,[.bool true]):=eqL_Expr_n _ es (Nat.lt_succ_self _) hB ok
theorem toC_Schema{e:List D}(ok:OkC mg (lay 12) e)(ih:∀xs,.list 19 false xs∈e→G 71 [.list 19 false xs]=some (0,[.list 19 false xs])):G 70 e=some (0,e):=by
 obtain⟨x0,x1,x2,x3,x4,x5,x6,x7,x8,x9,x10,x11,x12,x13,x14,x15,x16,x17,x18,rfl,_,b1,_,⟨b3,c3⟩,⟨b4,c4⟩,b5,b6,⟨b7,c7⟩,⟨b8,c8⟩,b9,_,_,_,_,_,_,⟨b16,c16⟩,⟨b17,c17⟩,⟨b18,c18⟩⟩:=inv_Schema ok;have f2:=toC_Type (OkC.sub 2 5 ok);simp only[List.drop_succ_cons,List.drop_zero,List.take_succ_cons,List.take_zero]at f2;have f7:=toL_str b7 c7;have f8:=toL_str b8 c8;have f16:=toL_Expr b16 c16;have f17:=toL_Expr b17 c17;have f18:=ih x18 (by simp only[List.mem_cons,true_or,or_true]);exact gOf s70 rfl (by simp -implicitDefEqProofs only [go_sem,t70,f2,f7,f8,f16,f17,f18])
theorem toL_Schema_s{es:List (List D)}(hl:es.length≤mg)(ok:OkE mg 12 es)(he:∀e∈es,G 70 e=some (0,e)):G 71 [.list 19 false es]=some (0,[.list 19 false es]):=by
 have h:=gl_to (b:=lB G l71_0) es (([zI 0,zS [],zI 0,zL 2 true,zL 1 true,zS [],zS [],zL 1 true,zL 1 true,zS [],zB false,zB false,zB false,zB false,zI 0,zI 0,zL 7 false,zL 7 false,zL 19 false]:List SK).map SK.d) (fun i acc=>(0,[.list 19 false es,.int .i64 (i:Int),.list 19 false acc])) (fun acc=>(0,[.list 19 false es,.int .i64 es.length,.bool false,.list 19 false acc])) (by
  intro i e acc hn hz;have hi:=nth_len hn;have hw:=wj hi hl;have oe:=ok.mem e (nth_in hn);have f:=he e (nth_in hn);obtain⟨x0,x1,x2,x3,x4,x5,x6,x7,x8,x9,x10,x11,x12,x13,x14,x15,x16,x17,x18,rfl,_,b1,_,⟨b3,c3⟩,⟨b4,c4⟩,b5,b6,⟨b7,c7⟩,⟨b8,c8⟩,b9,_,_,_,_,_,_,⟨b16,c16⟩,⟨b17,c17⟩,⟨b18,c18⟩⟩:=inv_Schema oe;have hc:=po_chk 19 false acc i (nth_len hz);have hs:=po_set (fl:=false) (k:=19) (ds:=[.int .i64 x0,.str x1,.int .i64 x2,.list 2 true x3,.list 1 true x4,.str x5,.str x6,.list 1 true x7,.list 1 true x8,.str x9,.bool x10,.bool x11,.bool x12,.bool x13,.int .i64 x14,.int .i64 x15,.list 7 false x16,.list 7 false x17,.list 19 false x18]) hz rfl rfl (fun h=>by cases h);have hh:evPO (.has 19) [.list 0 false [[.int .i64 x0,.str x1,.int .i64 x2,.list 2 true x3,.list 1 true x4,.str x5,.str x6,.list 1 true x7,.list 1 true x8,.str x9,.bool x10,.bool x11,.bool x12,.bool x13,.int .i64 x14,.int .i64 x15,.list 7 false x16,.list 7 false x17,.list 19 false x18]]]=some (.bool false):=rfl;have hp:evPO .pl [.int .i64 x0,.str x1,.int .i64 x2,.str x5,.str x6,.str x9,.bool x10,.bool x11,.bool x12,.bool x13,.int .i64 x14,.int .i64 x15]=some (.bool false):=rfl;simp -implicitDefEqProofs only [go_sem,lB_,l71_0,hi,hn,hh,f,hw,hc,hs,hp]) (by
  intro acc;simp -implicitDefEqProofs only [go_sem,lB_,l71_0,Nat.lt_irrefl])
 have hm:=fun by_ hb=>po_make (k:=19) (fl:=false) (by_:=by_) (zs:=[zI 0,zS [],zI 0,zL 2 true,zL 1 true,zS [],zS [],zL 1 true,zL 1 true,zS [],zB false,zB false,zB false,zB false,zI 0,zI 0,zL 7 false,zL 7 false,zL 19 false]) hl hb;have hm:=hm 272 (by omega);rw[n0]at h;simp -implicitDefEqProofs only [go_sem]at h
 exact gOf s71 rfl (by simp -implicitDefEqProofs only [go_sem,t71,hm,h])
theorem toL_Schema_n(m:Nat):∀es:List (List D),SizeOf.sizeOf es < m→es.length≤mg→OkE mg 12 es→G 71 [.list 19 false es]=some (0,[.list 19 false es]):=by
 induction m with
 |zero=>intro es h;omega
 |succ m ih=>
  intro es hz hB ok;refine toL_Schema_s hB ok fun e he=>toC_Schema (ok.mem e he) fun xs hx=>?_;obtain⟨b,c⟩:=kid_Schema (ok.mem e he) hx;exact ih xs (by have:=size_kid he hx;omega) b c
theorem toL_Schema{es:List (List D)}(hB:es.length≤mg)(ok:OkE mg 12 es):G 71 [.list 19 false es]=some (0,[.list 19 false es]):=toL_Schema_n _ es (Nat.lt_succ_self _) hB ok
theorem eqC_Schema{e:List D}(ok:OkC mg (lay 12) e)(ih:∀xs,.list 19 false xs∈e→G 120 [.list 19 false xs,.list 19 false xs]=some (0,[.bool true])):G 119 (e++e)=some (0,[.bool true]):=by
 obtain⟨x0,x1,x2,x3,x4,x5,x6,x7,x8,x9,x10,x11,x12,x13,x14,x15,x16,x17,x18,rfl,_,b1,_,⟨b3,c3⟩,⟨b4,c4⟩,b5,b6,⟨b7,c7⟩,⟨b8,c8⟩,b9,_,_,_,_,_,_,⟨b16,c16⟩,⟨b17,c17⟩,⟨b18,c18⟩⟩:=inv_Schema ok;have f2:=eqC_Type (OkC.sub 2 5 ok);simp only[List.drop_succ_cons,List.drop_zero,List.take_succ_cons,List.take_zero,List.cons_append,List.nil_append]at f2;have f7:=eqL_str b7 c7;have f8:=eqL_str b8 c8;have f16:=eqL_Expr b16 c16;have f17:=eqL_Expr b17 c17;have f18:=ih x18 (by simp only[List.mem_cons,true_or,or_true]);exact gOf s119 rfl (by simp -implicitDefEqProofs only [go_sem,t119,f2,f7,f8,f16,f17,f18])
theorem eqL_Schema_s{es:List (List D)}(hl:es.length≤mg)(ok:OkE mg 12 es)(he:∀e∈es,G 119 (e++e)=some (0,[.bool true])):G 120 [.list 19 false es,.list 19 false es]=some (0,[.bool true]):=by
 have h:=gl_all (b:=lB G l120_0) es (fun i=>(0,[.list 19 false es,.list 19 false es,.int .i64 (i:Int)])) (fun _=>true) (1,[.list 19 false es,.list 19 false es,.int .i64 es.length,.bool false]) (0,[.bool false]) (by
  intro i e hn;have hi:=nth_len hn;have hw:=wj hi hl;have oe:=ok.mem e (nth_in hn);have f:=he e (nth_in hn);obtain⟨x0,x1,x2,x3,x4,x5,x6,x7,x8,x9,x10,x11,x12,x13,x14,x15,x16,x17,x18,rfl,_,b1,_,⟨b3,c3⟩,⟨b4,c4⟩,b5,b6,⟨b7,c7⟩,⟨b8,c8⟩,b9,_,_,_,_,_,_,⟨b16,c16⟩,⟨b17,c17⟩,⟨b18,c18⟩⟩:=inv_Schema oe;have hh:evPO (.has 19) [.list 0 false [[.int .i64 x0,.str x1,.int .i64 x2,.list 2 true x3,.list 1 true x4,.str x5,.str x6,.list 1 true x7,.list 1 true x8,.str x9,.bool x10,.bool x11,.bool x12,.bool x13,.int .i64 x14,.int .i64 x15,.list 7 false x16,.list 7 false x17,.list 19 false x18]]]=some (.bool false):=rfl;simp only[List.cons_append,List.nil_append]at f;simp -implicitDefEqProofs only [go_sem,lB_,l120_0,hi,hn,hh,f,hw]) (by simp -implicitDefEqProofs only [go_sem,lB_,l120_0,Nat.lt_irrefl])
 rw[n0]at h;have ha:(es.all fun _=>true)=true:=by simp
 rw[ha]at h;simp -implicitDefEqProofs only [go_sem]at h
 exact gOf s120 rfl (by simp -implicitDefEqProofs only [go_sem,t120,h])
theorem eqL_Schema_n(m:Nat):∀es:List (List D),SizeOf.sizeOf es < m→es.length≤mg→OkE mg 12 es→G 120 [.list 19 false es,.list 19 false es]=some (0,[.bool true]):=by
 induction m with
 |zero=>intro es h;omega
 |succ m ih=>
  intro es hz hB ok;refine eqL_Schema_s hB ok fun e he=>eqC_Schema (ok.mem e he) fun xs hx=>?_;obtain⟨b,c⟩:=kid_Schema (ok.mem e he) hx;exact ih xs (by have:=size_kid he hx;omega) b c
theorem eqL_Schema{es:List (List D)}(hB:es.length≤mg)(ok:OkE mg 12 es):G 120 [.list 19 false es,.list 19 false es]=some (0,[.bool true]):=eqL_Schema_n _ es (Nat.lt_succ_self _) hB ok
end
section
section
variable {B:Nat}
theorem dec_str{es:List (List D)}(ok:OkE B 0 es):∃xs:List ByteArray,es=xs.map eStr:=dec_all fun e he=>by
 obtain⟨x,h,_⟩:=inv_str (ok.mem e he);exact⟨x,h⟩
theorem dec_Range{es:List (List D)}(ok:OkE B 6 es):∃xs:List XRange,es=xs.map eRange:=dec_all fun e he=>by
 obtain⟨x,y,h,_⟩:=inv_Range (ok.mem e he);exact⟨⟨x,y⟩,h⟩
theorem dec_Test{es:List (List D)}(ok:OkE B 8 es):∃xs:List XTest,es=xs.map eTest:=dec_all fun e he=>by
 obtain⟨x,y,h,_⟩:=inv_Test (ok.mem e he);exact⟨⟨x,y⟩,h⟩
theorem dec_Step{es:List (List D)}(ok:OkE B 9 es):∃xs:List XStep,es=xs.map eStep:=dec_all fun e he=>by
 obtain⟨x,y,h,_,_,c⟩:=inv_Step (ok.mem e he);obtain⟨ts,rfl⟩:=dec_Test c;exact⟨⟨x,ts⟩,h⟩
theorem dec_Expr_n(m:Nat):∀es:List (List D),SizeOf.sizeOf es < m→OkE B 11 es→∃xs:List XExpr,es=xs.map eExpr:=by
 induction m with
 |zero=>intro es h;omega
 |succ m ih=>
  intro es hz ok;refine dec_all fun e he=>?_;obtain⟨x0,x1,x2,x3,x4,x5,x6,h,_,_,_,_,_,⟨_,c5⟩,⟨_,c6⟩⟩:=inv_Expr (ok.mem e he);obtain⟨ss,rfl⟩:=dec_Step c5;obtain⟨ks,rfl⟩:=ih x6 (by have:=size_kid (k:=7) (fl:=false) (xs:=x6) he (by rw[h];simp only[List.mem_cons,true_or,or_true]);omega) c6;exact⟨⟨x0,x1,x2,⟨x3,x4,ss⟩,ks⟩,by rw[h,eExpr_eq]⟩
theorem dec_Expr{es:List (List D)}(ok:OkE B 11 es):∃xs:List XExpr,es=xs.map eExpr:=dec_Expr_n _ es (Nat.lt_succ_self _) ok
theorem dec_Schema_n(m:Nat):∀es:List (List D),SizeOf.sizeOf es < m→OkE B 12 es→∃xs:List XSchema,es=xs.map eSchema:=by
 induction m with
 |zero=>intro es h;omega
 |succ m ih=>
  intro es hz ok;refine dec_all fun e he=>?_;obtain⟨x0,x1,x2,x3,x4,x5,x6,x7,x8,x9,x10,x11,x12,x13,x14,x15,x16,x17,x18,h,_,_,_,⟨_,c3⟩,⟨_,c4⟩,_,_,⟨_,c7⟩,⟨_,c8⟩,_,_,_,_,_,_,_,⟨_,c16⟩,⟨_,c17⟩,⟨_,c18⟩⟩:=inv_Schema (ok.mem e he);obtain⟨y3,rfl⟩:=dec_Range c3;obtain⟨y4,rfl⟩:=dec_str c4;obtain⟨y7,rfl⟩:=dec_str c7;obtain⟨y8,rfl⟩:=dec_str c8;obtain⟨y16,rfl⟩:=dec_Expr c16;obtain⟨y17,rfl⟩:=dec_Expr c17;obtain⟨y18,rfl⟩:=ih x18 (by have:=size_kid (k:=19) (fl:=false) (xs:=x18) he (by rw[h];simp only[List.mem_cons,true_or,or_true]);omega) c18;exact⟨⟨x0,x1,⟨x2,y3,y4,x5,x6⟩,y7,y8,x9,x10,x11,x12,x13,x14,x15,y16,y17,y18⟩,by rw[h,eSchema_eq]⟩
theorem dec_Schema{es:List (List D)}(ok:OkE B 12 es):∃xs:List XSchema,es=xs.map eSchema:=dec_Schema_n _ es (Nat.lt_succ_self _) ok
theorem dec_Node_n(m:Nat):∀es:List (List D),SizeOf.sizeOf es < m→OkE B 2 es→∃xs:List XNode,es=xs.map eNode:=by
 induction m with
 |zero=>intro es h;omega
 |succ m ih=>
  intro es hz ok;refine dec_all fun e he=>?_;obtain⟨x0,x1,x2,h,_,_,_,c⟩:=inv_Node (ok.mem e he);obtain⟨ks,rfl⟩:=ih x2 (by have:=size_kid (k:=3) (fl:=false) (xs:=x2) he (by rw[h];simp only[List.mem_cons,true_or,or_true]);omega) c;exact⟨⟨x0,x1,ks⟩,by rw[h,eNode_eq]⟩
theorem dec_Node{es:List (List D)}(ok:OkE B 2 es):∃xs:List XNode,es=xs.map eNode:=dec_Node_n _ es (Nat.lt_succ_self _) ok
end
end
end Go.Proofs.YtcdjbelccndadaaGreatDoor
