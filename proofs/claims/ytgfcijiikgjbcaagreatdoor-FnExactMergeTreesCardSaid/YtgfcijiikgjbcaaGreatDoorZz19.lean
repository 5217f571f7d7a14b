/- Part of the proof: a machine over plain data, its proof, the functions of the program run on symbols, what they answer. Condition: none. -/
import Derived.ProofKit
import Derived.OpenShut
import Derived.Below
import Derived.Test.YtgfcijiikgjbcaaGreatDoorZz02
set_option linter.unusedVariables false
set_option linter.unusedSimpArgs false
open Bool renaming and_eq_true->ai,true->I,false->J
open List renaming cons_append->au,mem_cons->aI,mem_append->aT,map_cons->aZ,getElem?_eq_some_iff->bh,all_eq_true->bz,take_append_drop->bD,all_cons->cV,getElem?_append_left->dd,getElem?_append_right->dw,getElem?_eq_getElem->fw,drop_of_length_le->fP,drop_drop->oy
open List.cons renaming injEq->bY
open Nat renaming le_refl->az,succ_mul->j5,zero_mul->rq
open Option renaming some->Z,none->O
open Decidable renaming decide->Z'
namespace Go.Proofs.YtgfcijiikgjbcaaGreatDoor
section
open Go.RowKit Go.ChangeShapes Go.WideShapes
inductive KTD where
 |int
 |bool
 |str
 |list (e s:Nat)
 |agg (ts:List Nat)
def kty:Nat->KTD
 |0=>.int
 |1=>.bool
 |2=>.str
 |3=>.list 2 0
 |4=>.agg [2,3,0,1]
 |5=>.list 4 1
 |6=>.agg [2,2,7]
 |7=>.list 6 2
 |8=>.agg [0,2,2,9]
 |9=>.list 8 3
 |10=>.agg [0,0,9]
 |11=>.list 10 4
 |12=>.agg [7,11]
 |13=>.agg [0,0]
 |14=>.list 13 6
 |15=>.agg [0,14,3,2,2]
 |16=>.agg [2,2]
 |17=>.list 16 8
 |18=>.agg [2,17]
 |19=>.list 18 9
 |20=>.agg [1,0,19]
 |21=>.agg [0,0,2,20,22]
 |22=>.list 21 11
 |23=>.agg [0,2,15,3,3,2,1,1,1,1,0,0,22,22,24]
 |24=>.list 23 12
 |25=>.agg [7,0,0]
 |26=>.list 25 13
 |27=>.agg [1,0,0,2,7]
 |28=>.agg [24,7,7,0,26,27]
 |_=>.int
def qJ:Nat->M Ty
 |0=>[.int]
 |1=>[.bool]
 |2=>[.str]
 |3=>[.list 0]
 |4=>[.str,.list 0,.int,.bool]
 |5=>[.list 1]
 |6=>[.str,.str,.list 2]
 |7=>[.list 2]
 |8=>[.int,.str,.str,.list 3]
 |9=>[.list 3]
 |10=>[.int,.int,.list 3]
 |11=>[.list 4]
 |12=>[.list 2,.list 4]
 |13=>[.int,.int]
 |14=>[.list 6]
 |15=>[.int,.list 6,.list 0,.str,.str]
 |16=>[.str,.str]
 |17=>[.list 8]
 |18=>[.str,.list 8]
 |19=>[.list 9]
 |20=>[.bool,.int,.list 9]
 |21=>[.int,.int,.str,.bool,.int,.list 9,.list 11]
 |22=>[.list 11]
 |23=>[.int,.str,.int,.list 6,.list 0,.str,.str,.list 0,.list 0,.str,.bool,.bool,.bool,.bool,.int,.int,.list 11,.list 11,.list 12]
 |24=>[.list 12]
 |25=>[.list 2,.int,.int]
 |26=>[.list 13]
 |27=>[.bool,.int,.int,.str,.list 2]
 |28=>[.list 12,.list 2,.list 2,.int,.list 13,.bool,.int,.int,.str,.list 2]
 |_=>[.int]
def Lm:M Nat->M Ty
 |[]=>[]
 |t::a=>qJ t++Lm a
def xb(P:Program)(R:TypeId->Nat->Prop):M Field->M Nat->Nat->Nat->Prop
 |[],[],off,all=>off=all
 |f::fs,t::a,off,all=>f.offset=off/\R f.type t/\xb P R fs a (off+P.cellsOf f.type) all
 |_,_,_,_=>False
def Ud(P:Program)(R:TypeId->Nat->Prop):Prop:=
 ∀t a,R t a->match kty a with
  | .int=>P.underlying t=Z (.int .i64)/\qJ a=[.int]
  | .bool=>P.underlying t=Z .bool/\qJ a=[.bool]
  | .str=>P.underlying t=Z .string/\qJ a=[.str]
  | .list e s=>∃b,P.underlying t=Z (.slice b)/\R b e/\qJ a=[.list s]/\lay s=qJ e/\0 < P.cellsOf b/\kw s=P.cellsOf b
  | .agg c=>∃fs,P.underlying t=Z (.struct fs)/\qJ a=Lm c/\xb P R fs.toList c 0 (P.cellsOf t)
theorem fL.append{B:Nat}:∀{b a:M Ty} {c es:M D},fL B b c->fL B a es->fL B (b++a) (c++es)
 |[],_,[],_,_,h=>h
 |t::b,a,d::c,es,h,e=>by simp only[fL]at h;simp only[au,fL];exact⟨h.1,fL.append h.2 e⟩
 |[],_,_::_,_,h,_|_::_,_,[],_,h,_=>by simp only[fL]at h
theorem fL.flat{B:Nat}:∀{b:M Ty} {e:M D},fL B b e->b.all Ty.plain=I->∀x∈e,D.plain x=I
 |[],[],_,_,x,a=>by simp at a
 |t::b,d::e,h,c,x,a=>by
  simp only[fL]at h;simp only[cV,ai]at c;rcases aI.1 a with rfl|a
  ·cases t with
   |int=>obtain⟨n,rfl,_⟩:=h.1.mc;rfl
   |bool=>obtain⟨n,rfl⟩:=h.1.qa;rfl
   |str=>obtain⟨n,rfl,_⟩:=h.1.jZ;rfl
   |list s=>simp[Ty.plain]at c
  ·exact fL.flat h.2 c.2 x a
 |[],_::_,h,_,_,_|_::_,[],h,_,_,_=>by simp only[fL]at h
theorem GJ{w:World}{s k b:Nat}:∀(len o:Nat),(∀i,i < len->∃e c F,fL maxLen (lay s) e/\fE w e c F/\iH w b (o+i * k) c/\c.length=k)->
  ∃es d G,es.length=len/\eJ maxLen s es/\fy w es d G/\iH w b o d
 |0,o,_=>⟨[],[],[],rfl,by simp[eJ],by simp[fy],λj a h=>by simp at h⟩
 |len+1,o,h=>by
  obtain⟨e,c,F,m,l,g,n⟩:=h 0 (by omega);obtain⟨es,d,G,a1,a2,a3,a4⟩:=GJ len (o+k) (λi q=>by
   obtain⟨e,c,F,m,l,g,n⟩:=h (i+1) (by omega);refine⟨e,c,F,m,l,?_,n⟩;rw[show o+k+i * k=o+(i+1) * k from by rw[j5];omega];exact g)
  refine⟨e::es,c++d,F++G,by simp[a1],⟨m,a2⟩,?_,?_⟩
  ·simp only[fy];exact⟨c,d,F,G,rfl,rfl,l,a3⟩
  ·intro j a f;by_cases p:j < c.length
   ·rw[dd p]at f;have:=g j a f
    simpa using this
   ·rw[dw (by omega)]at f;have:=a4 (j - c.length) a f;rw[show o+k+(j - c.length)=o+j by omega]at this;exact this
section
variable {H:Type} {enc:TypeId×Value->H} {P:Program} {w:World} {spare:Nat->Bool} {held:Bool} {R:TypeId->Nat->Prop}
theorem GK{n c:Nat}{a:M Value}(l:∀t k a x,DataW.trod enc P w 0 spare held n t a=Z x->R t k->∃b F,fL maxLen (qJ k) b/\fE w b a F)(q:a.length=c) :
  ∀(fs:M Field) (d:M Nat) (off:Nat),xb P R fs d off c->(∀f∈fs,∃x,DataW.trod enc P w 0 spare held n f.type ((a.drop f.offset).take (P.cellsOf f.type))=Z x)->
   ∃b F,fL maxLen (Lm d) b/\fE w b (a.drop off) F
 |[],[],off,h,_=>by
  simp only[xb]at h;refine⟨[],[],by simp[Lm,fL],?_⟩;rw[fP (by omega)];simp[fE]
 |[],_::_,off,h,_=>by simp only[xb]at h
 |_::_,[],off,h,_=>by simp only[xb]at h
 |f::fs,t::d,off,h,m=>by
  simp only[xb]at h;obtain⟨rfl,v,s⟩:=h;obtain⟨x,j⟩:=m f (by simp);obtain⟨b,F,ok,p⟩:=l _ t _ x j v;obtain⟨o,G,i,y⟩:=GK l q fs d _ s (λg r=>m g (by simp[r]));refine⟨b++o,F++G,fL.append ok i,?_⟩;have e:a.drop f.offset=(a.drop f.offset).take (P.cellsOf f.type)++a.drop (f.offset+P.cellsOf f.type):=by
   rw[<- oy,bD]
  rw[e];exact fE.append b p y
theorem OL{a:Addr}{v:Value}(h:w.cell? a=Z v):a=⟨a.block,a.off,O⟩:=by
 obtain⟨b,o,c⟩:=a;cases c with
 |none=>rfl
 |some k=>
  unfold World.cell? at h
  split at h
  ·simp at h
  ·cases h
theorem BS(hR:Ud P R):∀(fuel:Nat) (t:TypeId) (o:Nat) (m:M Value) (x:DataW H×M MemPlace),DataW.trod enc P w 0 spare held fuel t m=Z x->R t o->∃g F,fL maxLen (qJ o) g/\fE w g m F
 |0,t,o,m,x,h,_=>by simp[DataW.trod]at h
 |fuel+1,t,o,m,x,h,T=>by
  have ES:∀{d:D} {v:Value},Rp w d v []->fE w [d] [v] []:=λh=>by simp only[fE];exact⟨_,[],[],[],rfl,rfl,h,rfl,rfl⟩
  have l:=hR t o T;cases r:kty o with
  |int=>
   rw[r]at l;obtain⟨n,rfl,_,hw⟩:=DataW.trod_int l.1 h;have hb:=bounds_i64 hw;refine⟨[.int .i64 n],[],?_,ES ?_⟩
   ·rw[l.2];simp only[fL,Ok,and_true,true_and];omega
   ·simp only[Rp,true_and];exact cD (by omega)
  |bool=>
   rw[r]at l;obtain⟨b,rfl,_⟩:=DataW.trod_bool l.1 h;refine⟨[.bool b],[],?_,ES ?_⟩
   ·rw[l.2];simp only[fL,Ok,and_true]
   ·simp only[Rp,true_and]
  |str=>
   rw[r]at l;obtain⟨s,rfl,_,U⟩:=DataW.trod_string l.1 h;have qY:s.size<=maxLen:=by simpa [maxLen] using U
   refine⟨[.str s],[],?_,ES ?_⟩
   ·rw[l.2];simp only[fL,Ok,and_true];exact qY
   ·simp only[Rp,true_and];exact qY
  |agg ts=>
   rw[r]at l;obtain⟨fs,Y,S,hF⟩:=l;obtain⟨xs,n,hn,_,U,Ca,W⟩:=DataW.trod_struct Y h;have Zz:n=fuel:=by omega
   subst Zz;obtain⟨g,F,ok,uo⟩:=GK (λt o m x h T=>BS hR n t o m x h T) U fs.toList ts 0 hF (λf V=>by
    obtain⟨i,B,e⟩:=List.getElem_of_mem V;have qF:i < fs.size:=by simpa using B
    have p:=W i f (by rw[<- e];simp[qF]);rw[fw (by omega)]at p;exact⟨_,p⟩)
   exact⟨g,F,by rw[S];exact ok,by simpa using uo⟩
  |list e s=>
   rw[r]at l;obtain⟨q,Y,hRe,S,ajP,R3,hkw⟩:=l;have out:∀{v:Value} {es:M (M D)} {F:Fp},es.length<=maxLen->eJ maxLen s es->Rp w (.list (kw s) (flT s) es) v F->∃g F,fL maxLen (qJ o) g/\fE w g [v] F:=by
    intro v es F p N h3;refine⟨[.list (kw s) (flT s) es],F,?_,?_⟩
    ·rw[S];simp only[fL,Ok,and_true,true_and];exact⟨p,N⟩
    ·simp only[fE];exact⟨v,[],F,[],rfl,by simp,h3,rfl,rfl⟩
   rcases DataW.trod_slice Y h with ⟨rfl,_⟩|⟨a,len,C,elems,rest,n,hn,rfl,_,_,A,Zs,AA,VW,_⟩
   ·refine out (es:=[]) (F:=[]) (by simp) (by simp[eJ]) ?_;simp only[Rp];exact⟨O,0,0,rfl,rfl,az _,by simp[maxLen],λ_=>jC,by omega,by simp,.inl (by simp)⟩
   ·have Zz:n=fuel:=by omega
    subst Zz;have K:C<=maxLen:=by simpa [maxLen] using Zs
    have y:∀i,i < len->∃g m F,fL maxLen (lay s) g/\fE w g m F/\m.length=P.cellsOf q/\∀j,j < P.cellsOf q->w.cell? ((a.add (i * P.cellsOf q)).add j)=m[j]?:=by
     intro i B;have p:=VW i B;rw[fw (by omega)]at p;obtain⟨jV,hc,ht⟩:=Option.bind_eq_some_iff.1 p;obtain⟨_,L,NY⟩:=World.cells?_some hc;obtain⟨g,F,ok,R5⟩:=BS hR n q e jV _ ht hRe;exact⟨g,jV,F,by rw[ajP];exact ok,R5,L,NY⟩
    by_cases h0:len=0
    ·subst h0;refine out (es:=[]) (F:=[]) (by simp) (by simp[eJ]) ?_;simp only[Rp];exact⟨_,_,_,rfl,rfl,A,K,λ_=>jC,by omega,by simp,.inl (by simp)⟩
    ·obtain⟨_,cs0,F0,_,_,N1,ajC⟩:=y 0 (by omega);have P6:=ajC 0 R3;simp only[rq]at P6;have e00:(a.add 0).add 0=a:=by simp[Addr.add]
     rw[e00,fw (by omega)]at P6;have ha:=OL P6;obtain⟨es,xs,G,x1,Q,x3,x4⟩:=GJ (w:=w) (s:=s) (k:=P.cellsOf q) (b:=a.block) len a.off (λi B=>by
      obtain⟨g,m,F,ok,R5,L,NY⟩:=y i B;refine⟨g,m,F,ok,R5,λj c hu=>?_,L⟩;have hj:j < P.cellsOf q:=by rw[<- L];exact (bh.1 hu).1
      have N:=NY j hj;rw[ha,pZ,pZ,hu]at N;exact N)
     refine out (es:=es) (F:=(a.block,a.off+len * kw s)::G) (by omega) Q ?_;simp only[Rp];refine⟨Z a,len,C,rfl,x1.symm,A,K,λW e X=>(Q.mem e X).flat W,by omega,λe X=>(Q.mem e X).length,.inr ⟨by omega,a.block,a.off,xs,G,congrArg Z ha,rfl,x3,x4⟩⟩
end
def DB(P:Program)(rel:M (TypeId×Nat)):M Field->M Nat->Nat->Nat->Bool
 |[],[],off,all=>off ==all
 |f::fs,t::a,off,all=>f.offset ==off && rel.contains (f.type,t) && DB P rel fs a (off+P.cellsOf f.type) all
 |_,_,_,_=>J
def Ty.same:Ty->Ty->Bool
 | .int,.int=>I
 | .bool,.bool=>I
 | .str,.str=>I
 | .list a,.list b=>a ==b
 |_,_=>J
def tQ:M Ty->M Ty->Bool
 |[],[]=>I
 |a::as,b::c=>a.same b && tQ as c
 |_,_=>J
theorem Ty.aaV:∀{a b:Ty},a.same b=I->a=b
 | .int,.int,_=>rfl
 | .bool,.bool,_=>rfl
 | .str,.str,_=>rfl
 | .list a,.list b,h=>by simp only[Ty.same,beq_iff_eq]at h;rw[h]
 | .int,.bool,h | .int,.str,h | .int,.list _,h | .bool,.int,h | .bool,.str,h | .bool,.list _,h | .str,.int,h | .str,.bool,h | .str,.list _,h | .list _,.int,h | .list _,.bool,h | .list _,.str,h=>by cases h
theorem ow:∀{a b:M Ty},tQ a b=I->a=b
 |[],[],_=>rfl
 |a::as,b::c,h=>by
  simp only[tQ,ai]at h;rw[Ty.aaV h.1,ow h.2]
 |[],_::_,h|_::_,[],h=>by cases h
def aeq(P:Program)(rel:M (TypeId×Nat)):Bool:=
 rel.all λx=>match P.underlying x.1,kty x.2 with
  |some (.int .i64),.int=>tQ (qJ x.2) [.int]
  |some .bool,.bool=>tQ (qJ x.2) [.bool]
  |some .string,.str=>tQ (qJ x.2) [.str]
  |some (.slice a),.list e s=>rel.contains (a,e) && tQ (qJ x.2) [.list s] && tQ (lay s) (qJ e) && Z' (0 < P.cellsOf a) && Z' (kw s=P.cellsOf a)
  |some (.struct fs),.agg b=>tQ (qJ x.2) (Lm b) && DB P rel fs.toList b 0 (P.cellsOf x.1)
  |_,_=>J
theorem Ll{P:Program}{rel:M (TypeId×Nat)}:∀(fs:M Field) (b:M Nat) (off a:Nat),DB P rel fs b off a=I->xb P (λt c=>(t,c)∈rel) fs b off a
 |[],[],off,a,h=>by simpa [DB,xb] using h
 |[],_::_,_,_,h=>by simp[DB]at h
 |_::_,[],_,_,h=>by simp[DB]at h
 |f::fs,t::b,off,a,h=>by
  simp only[DB,ai,beq_iff_eq,List.contains_iff_mem]at h;simp only[xb];exact⟨h.1.1,h.1.2,Ll fs b _ a h.2⟩
theorem wJ{P:Program}{rel:M (TypeId×Nat)}(h:aeq P rel=I):Ud P (λt c=>(t,c)∈rel):=by
 intro t c g;have a:=bz.1 h (t,c) g;dsimp only at a;cases f:P.underlying t with
 |none=>rw[f]at a;cases b:kty c<;>rw[b]at a<;>simp at a
 |some d=>
  rw[f]at a;cases b:kty c with
  |int=>rw[b]at a;dsimp only;split at a<;>simp_all;exact ow a
  |bool=>rw[b]at a;dsimp only;split at a<;>simp_all;exact ow a
  |str=>rw[b]at a;dsimp only;split at a<;>simp_all;exact ow a
  |list e s=>
   rw[b]at a;dsimp only
   split at a<;>simp_all
   exact⟨ow a.1.1.1.2,ow a.1.1.2⟩
  |agg i=>
   rw[b]at a;dsimp only
   split at a<;>simp_all
   exact⟨ow a.1,Ll _ _ _ _ a.2⟩
def ab1(w:World)(a:A)(v:Value)(G:Fp):Prop:=∃c e b,a=.val c (e.map .d)/\fE w e b G/\(c=I->v=.agg b.toArray)/\(c=J->b=[v])
def uD(w:World):M A->M Value->Fp->Prop
 |[],b,G=>b=[]/\G=[]
 |a::as,b,G=>∃v c d G2,b=v::c/\G=d++G2/\ab1 w a v d/\uD w as c G2
theorem GG{w:World}:uD w [] [] []:=⟨rfl,rfl⟩
theorem n7{w:World}{a:A}{v:Value}{as:M A}{b:M Value}{c G2:Fp}(h:ab1 w a v c)(d:uD w as b G2):uD w (a::as) (v::b) (c++G2):=⟨v,b,c,G2,rfl,rfl,h,d⟩
theorem sf{w:World}{d:D}{v:Value}{G:Fp}(h:fE w [d] [v] G):ab1 w (.val J [.d d]) v G:=⟨J,[d],[v],rfl,h,(λh=>by cases h),λ_=>rfl⟩
def Ol:Fp->Nat
 |[]=>0
 |be::G=>be.2+Ol G
theorem QI:∀{G:Fp} {a:Nat×Nat},a∈G->a.2<=Ol G
 |b::G,a,h=>by
  rcases aI.1 h with rfl|h
  ·simp only[Ol];omega
  ·have:=QI h;simp only[Ol];omega
def hOf(n m:Nat)(g:Nat):Nat:=if g < n then m else 0
theorem Q_{w:World}{h:Nat->Nat}:∀{e:M D} {b:M Value} {G:Fp},fE w e b G->eI h G->jd h w (e.map .d) b []
 |[],b,G,a,_=>by simp only[fE]at a;simp[jd,a.1]
 |d::e,b,G,a,g=>by
  simp only[fE]at a;obtain⟨v,k,l,m,rfl,rfl,j,i⟩:=a;simp only[aZ,jd];exact⟨v,k,[],[],rfl,rfl,⟨rfl,l,j,λf c=>g f (by simp[c])⟩,Q_ i (λf c=>g f (by simp[c]))⟩
theorem Ul{w:World}{h:Nat->Nat}:∀{as:M A} {c:M Value} {G:Fp},uD w as c G->eI h G->mT h w as c []
 |[],c,G,b,_=>by simp only[uD]at b;simp[mT,b.1]
 |a::as,c,G,b,f=>by
  simp only[uD]at b;obtain⟨v,m,q,p,rfl,rfl,⟨o,n,g,rfl,l,k,j⟩,i⟩:=b;simp only[mT];exact⟨v,m,[],[],rfl,rfl,⟨g,Q_ l (λe d=>f e (by simp[d])),k,j⟩,Ul i (λe d=>f e (by simp[d]))⟩
theorem KC{w:World}:∀{as:M A} {e:M Value} {G:Fp},uD w as e G->∀d∈G,d.1 < w.heap.size
 |[],e,G,c,d,b=>by simp only[uD]at c;rw[c.2]at b;simp at b
 |a::as,e,G,c,d,b=>by
  simp only[uD]at c;obtain⟨v,j,m,l,rfl,rfl,⟨k,h,i,rfl,g,_⟩,f⟩:=c;rcases aT.1 b with b|b
  ·exact fE.lt h g d b
  ·exact KC f d b
theorem LW{P:Program}{num:Nat->FuncId}{T:Nat->u KF}(t:P.follows .mixedOrders=I)(x:Rr P num)(H:∀f h,T f=Z h->Yq P num f h){f:Nat}{h:KF}(X:okF P num f h=I){args:M A}(N:run T (iD T) h args=Z ([.val J [.d (.bool I)]],[]))
  {w:World} {l:M Value} {G:Fp} (U:Ua P w []) (F:uD w args l G):Calls P (num f) l.toArray w λe B=>e=.returned (.bool I)/\Below w.heap.size w B:=by
 obtain⟨n,R⟩:=aet T (n:=0) N;have V:=He t x (λg a r o=>v8 t x H n g a r o) (λg ag W q Q L=>Hb t x H n g ag W q Q L) X (R n (az _));refine (V w (hOf w.heap.size (Ol G)) l [] U (Ul F (λY D=>?_)) List.nodup_nil (λg k=>by simp at k) (λg k=>?_)).mono λe B ⟨v,us,F1,F2,h',S,c,C,_,_,_,j⟩=>?_
 ·have:=KC F Y D;simp only[hOf,this,if_true];exact QI D
 ·simp only[hOf];rw[if_neg (by omega)]
 ·simp only[mT,AR,jd,GD]at C;obtain⟨b,fC,_,_,rfl,_,⟨m,⟨v1,K,_,_,i,_,⟨_,G',y,_⟩,R9,_⟩,_,p⟩,rfl,_⟩:=C;have s:m=[b]:=p trivial;rw[R9]at i;rw[i]at s;simp only[bY,and_true]at s;subst s;simp only[Rp]at y;rcases c with c|⟨c,_⟩
  ·simp only[bY,and_true]at c;subst c;exact⟨by rw[S,y.1],⟨j.os,j.tape,j.output,j.size,λg k=>j.block g k (by simp)⟩⟩
  ·simp at c
end
end Go.Proofs.YtgfcijiikgjbcaaGreatDoor
