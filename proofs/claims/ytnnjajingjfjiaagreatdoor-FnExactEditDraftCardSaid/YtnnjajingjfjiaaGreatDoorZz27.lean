/- Part of the proof: a machine over plain data, its proof, the functions of the program run on symbols, what they answer. Condition: none. -/
import Derived.ProofKit
import Derived.OpenShut
import Derived.Below
import Derived.Test.YtnnjajingjfjiaaGreatDoorZz02
set_option linter.unusedVariables false
set_option linter.unusedSimpArgs false
open Bool renaming and_eq_true->ai,true->I,false->J
open List renaming cons_append->au,mem_cons->aL,map_cons->aW,mem_append->ba,getElem?_eq_some_iff->bq,all_eq_true->bw,take_append_drop->bI,all_cons->cX,getElem?_append_right->cY,getElem?_append_left->dr,getElem?_eq_getElem->fu,drop_of_length_le->fN,drop_drop->oP
open List.cons renaming injEq->cl
open Nat renaming le_refl->aD,succ_mul->j5,zero_mul->sq
open Option renaming some->Z,none->O
open Decidable renaming decide->Z'
namespace Go.Proofs.YtnnjajingjfjiaaGreatDoor
section
open Go.RowKit Go.ChangeShapes Go.WideShapes
inductive KTD where
 |int
 |bool
 |str
 |list (e s:Nat)
 |agg (ts:List Nat)
def kty:Nat->KTD
 |0=>.int
 |1=>.bool
 |2=>.str
 |3=>.list 2 0
 |4=>.agg [2,3,0,1]
 |5=>.list 4 1
 |6=>.agg [2,2,7]
 |7=>.list 6 2
 |8=>.agg [0,2,2,9]
 |9=>.list 8 3
 |10=>.agg [0,0,9]
 |11=>.list 10 4
 |12=>.agg [7,11]
 |13=>.agg [0,0]
 |14=>.list 13 6
 |15=>.agg [0,14,3,2,2]
 |16=>.agg [2,2]
 |17=>.list 16 8
 |18=>.agg [2,17]
 |19=>.list 18 9
 |20=>.agg [1,0,19]
 |21=>.agg [0,0,2,20,22]
 |22=>.list 21 11
 |23=>.agg [0,2,15,3,3,2,1,1,1,1,0,0,22,22,24]
 |24=>.list 23 12
 |25=>.agg [7,0,0]
 |26=>.list 25 13
 |27=>.agg [1,0,0,2,7]
 |28=>.agg [24,7,7,0,26,27]
 |_=>.int
def qO:Nat->M Ty
 |0=>[.int]
 |1=>[.bool]
 |2=>[.str]
 |3=>[.list 0]
 |4=>[.str,.list 0,.int,.bool]
 |5=>[.list 1]
 |6=>[.str,.str,.list 2]
 |7=>[.list 2]
 |8=>[.int,.str,.str,.list 3]
 |9=>[.list 3]
 |10=>[.int,.int,.list 3]
 |11=>[.list 4]
 |12=>[.list 2,.list 4]
 |13=>[.int,.int]
 |14=>[.list 6]
 |15=>[.int,.list 6,.list 0,.str,.str]
 |16=>[.str,.str]
 |17=>[.list 8]
 |18=>[.str,.list 8]
 |19=>[.list 9]
 |20=>[.bool,.int,.list 9]
 |21=>[.int,.int,.str,.bool,.int,.list 9,.list 11]
 |22=>[.list 11]
 |23=>[.int,.str,.int,.list 6,.list 0,.str,.str,.list 0,.list 0,.str,.bool,.bool,.bool,.bool,.int,.int,.list 11,.list 11,.list 12]
 |24=>[.list 12]
 |25=>[.list 2,.int,.int]
 |26=>[.list 13]
 |27=>[.bool,.int,.int,.str,.list 2]
 |28=>[.list 12,.list 2,.list 2,.int,.list 13,.bool,.int,.int,.str,.list 2]
 |_=>[.int]
def NB:M Nat->M Ty
 |[]=>[]
 |t::a=>qO t++NB a
def yg(P:Program)(R:TypeId->Nat->Prop):M Field->M Nat->Nat->Nat->Prop
 |[],[],off,all=>off=all
 |f::fs,t::a,off,all=>f.offset=off/\R f.type t/\yg P R fs a (off+P.cellsOf f.type) all
 |_,_,_,_=>False
def WO(P:Program)(R:TypeId->Nat->Prop):Prop:=
 ∀t a,R t a->match kty a with
  | .int=>P.underlying t=Z (.int .i64)/\qO a=[.int]
  | .bool=>P.underlying t=Z .bool/\qO a=[.bool]
  | .str=>P.underlying t=Z .string/\qO a=[.str]
  | .list e s=>∃b,P.underlying t=Z (.slice b)/\R b e/\qO a=[.list s]/\lay s=qO e/\0 < P.cellsOf b/\kw s=P.cellsOf b
  | .agg c=>∃fs,P.underlying t=Z (.struct fs)/\qO a=NB c/\yg P R fs.toList c 0 (P.cellsOf t)
theorem eu.append{B:Nat}:∀{b a:M Ty} {c es:M D},eu B b c->eu B a es->eu B (b++a) (c++es)
 |[],_,[],_,_,h=>h
 |t::b,a,d::c,es,h,e=>by simp only[eu]at h;simp only[au,eu];exact⟨h.1,eu.append h.2 e⟩
 |[],_,_::_,_,h,_|_::_,_,[],_,h,_=>by simp only[eu]at h
theorem eu.flat{B:Nat}:∀{b:M Ty} {e:M D},eu B b e->b.all Ty.plain=I->∀x∈e,D.plain x=I
 |[],[],_,_,x,a=>by simp at a
 |t::b,d::e,h,c,x,a=>by
  simp only[eu]at h;simp only[cX,ai]at c;rcases aL.1 a with rfl|a
  ·cases t with
   |int=>obtain⟨n,rfl,_⟩:=h.1.gC;rfl
   |bool=>obtain⟨n,rfl⟩:=h.1.nJ;rfl
   |str=>obtain⟨n,rfl,_⟩:=h.1.jl;rfl
   |list s=>simp[Ty.plain]at c
  ·exact eu.flat h.2 c.2 x a
 |[],_::_,h,_,_,_|_::_,[],h,_,_,_=>by simp only[eu]at h
theorem Io{w:World}{s k b:Nat}:∀(len o:Nat),(∀i,i < len->∃e c F,eu maxLen (lay s) e/\fp w e c F/\iA w b (o+i * k) c/\c.length=k)->
  ∃es d G,es.length=len/\dw maxLen s es/\fw w es d G/\iA w b o d
 |0,o,_=>⟨[],[],[],rfl,by simp[dw],by simp[fw],λj a h=>by simp at h⟩
 |len+1,o,h=>by
  obtain⟨e,c,F,m,l,g,n⟩:=h 0 (by omega);obtain⟨es,d,G,a1,a2,a3,a4⟩:=Io len (o+k) (λi q=>by
   obtain⟨e,c,F,m,l,g,n⟩:=h (i+1) (by omega);refine⟨e,c,F,m,l,?_,n⟩;rw[show o+k+i * k=o+(i+1) * k from by rw[j5];omega];exact g)
  refine⟨e::es,c++d,F++G,by simp[a1],⟨m,a2⟩,?_,?_⟩
  ·simp only[fw];exact⟨c,d,F,G,rfl,rfl,l,a3⟩
  ·intro j a f;by_cases p:j < c.length
   ·rw[dr p]at f;have:=g j a f
    simpa using this
   ·rw[cY (by omega)]at f;have:=a4 (j - c.length) a f;rw[show o+k+(j - c.length)=o+j by omega]at this;exact this
section
variable {H:Type} {enc:TypeId×Value->H} {P:Program} {w:World} {spare:Nat->Bool} {held:Bool} {R:TypeId->Nat->Prop}
theorem Ip{n c:Nat}{a:M Value}(l:∀t k a x,DataW.trod enc P w 0 spare held n t a=Z x->R t k->∃b F,eu maxLen (qO k) b/\fp w b a F)(q:a.length=c) :
  ∀(fs:M Field) (d:M Nat) (off:Nat),yg P R fs d off c->(∀f∈fs,∃x,DataW.trod enc P w 0 spare held n f.type ((a.drop f.offset).take (P.cellsOf f.type))=Z x)->
   ∃b F,eu maxLen (NB d) b/\fp w b (a.drop off) F
 |[],[],off,h,_=>by
  simp only[yg]at h;refine⟨[],[],by simp[NB,eu],?_⟩;rw[fN (by omega)];simp[fp]
 |[],_::_,off,h,_=>by simp only[yg]at h
 |_::_,[],off,h,_=>by simp only[yg]at h
 |f::fs,t::d,off,h,m=>by
  simp only[yg]at h;obtain⟨rfl,v,s⟩:=h;obtain⟨x,j⟩:=m f (by simp);obtain⟨b,F,ok,p⟩:=l _ t _ x j v;obtain⟨o,G,i,y⟩:=Ip l q fs d _ s (λg r=>m g (by simp[r]));refine⟨b++o,F++G,eu.append ok i,?_⟩;have e:a.drop f.offset=(a.drop f.offset).take (P.cellsOf f.type)++a.drop (f.offset+P.cellsOf f.type):=by
   rw[<- oP,bI]
  rw[e];exact fp.append b p y
theorem Rn{a:Addr}{v:Value}(h:w.cell? a=Z v):a=⟨a.block,a.off,O⟩:=by
 obtain⟨b,o,c⟩:=a;cases c with
 |none=>rfl
 |some k=>
  unfold World.cell? at h
  split at h
  ·simp at h
  ·cases h
theorem AQ(hR:WO P R):∀(fuel:Nat) (t:TypeId) (o:Nat) (m:M Value) (x:DataW H×M MemPlace),DataW.trod enc P w 0 spare held fuel t m=Z x->R t o->∃g F,eu maxLen (qO o) g/\fp w g m F
 |0,t,o,m,x,h,_=>by simp[DataW.trod]at h
 |fuel+1,t,o,m,x,h,U=>by
  have GH:∀{d:D} {v:Value},Rp w d v []->fp w [d] [v] []:=λh=>by simp only[fp];exact⟨_,[],[],[],rfl,rfl,h,rfl,rfl⟩
  have l:=hR t o U;cases y:kty o with
  |int=>
   rw[y]at l;obtain⟨n,rfl,_,hw⟩:=DataW.trod_int l.1 h;have hb:=bounds_i64 hw;refine⟨[.int .i64 n],[],?_,GH ?_⟩
   ·rw[l.2];simp only[eu,Ok,and_true,true_and];omega
   ·simp only[Rp,true_and];exact bH (by omega)
  |bool=>
   rw[y]at l;obtain⟨b,rfl,_⟩:=DataW.trod_bool l.1 h;refine⟨[.bool b],[],?_,GH ?_⟩
   ·rw[l.2];simp only[eu,Ok,and_true]
   ·simp only[Rp,true_and]
  |str=>
   rw[y]at l;obtain⟨s,rfl,_,V⟩:=DataW.trod_string l.1 h;have pr:s.size<=maxLen:=by simpa [maxLen] using V
   refine⟨[.str s],[],?_,GH ?_⟩
   ·rw[l.2];simp only[eu,Ok,and_true];exact pr
   ·simp only[Rp,true_and];exact pr
  |agg ts=>
   rw[y]at l;obtain⟨fs,hU,T,hF⟩:=l;obtain⟨xs,n,hn,_,V,Dr,X⟩:=DataW.trod_struct hU h;have p:n=fuel:=by omega
   subst p;obtain⟨g,F,ok,vv⟩:=Ip (λt o m x h U=>AQ hR n t o m x h U) V fs.toList ts 0 hF (λf W=>by
    obtain⟨i,C,e⟩:=List.getElem_of_mem W;have rE:i < fs.size:=by simpa using C
    have q:=X i f (by rw[<- e];simp[rE]);rw[fu (by omega)]at q;exact⟨_,q⟩)
   exact⟨g,F,by rw[T];exact ok,by simpa using vv⟩
  |list e s=>
   rw[y]at l;obtain⟨r,hU,hRe,T,amK,U1,hkw⟩:=l;have out:∀{v:Value} {es:M (M D)} {F:Fp},es.length<=maxLen->dw maxLen s es->Rp w (.list (kw s) (flT s) es) v F->∃g F,eu maxLen (qO o) g/\fp w g [v] F:=by
    intro v es F q Q h3;refine⟨[.list (kw s) (flT s) es],F,?_,?_⟩
    ·rw[T];simp only[eu,Ok,and_true,true_and];exact⟨q,Q⟩
    ·simp only[fp];exact⟨v,[],F,[],rfl,by simp,h3,rfl,rfl⟩
   rcases DataW.trod_slice hU h with ⟨rfl,_⟩|⟨a,len,K,elems,rest,n,hn,rfl,_,_,B,hcm,BJ,Yz,_⟩
   ·refine out (es:=[]) (F:=[]) (by simp) (by simp[dw]) ?_;simp only[Rp];exact⟨O,0,0,rfl,rfl,aD _,by simp[maxLen],λ_=>jE,by omega,by simp,.inl (by simp)⟩
   ·have p:n=fuel:=by omega
    subst p;have L:K<=maxLen:=by simpa [maxLen] using hcm
    have A:∀i,i < len->∃g m F,eu maxLen (lay s) g/\fp w g m F/\m.length=P.cellsOf r/\∀j,j < P.cellsOf r->w.cell? ((a.add (i * P.cellsOf r)).add j)=m[j]?:=by
     intro i C;have q:=Yz i C;rw[fu (by omega)]at q;obtain⟨jV,hc,ht⟩:=Option.bind_eq_some_iff.1 q;obtain⟨_,N,Qx⟩:=World.cells?_some hc;obtain⟨g,F,ok,U3⟩:=AQ hR n r e jV _ ht hRe;exact⟨g,jV,F,by rw[amK];exact ok,U3,N,Qx⟩
    by_cases h0:len=0
    ·subst h0;refine out (es:=[]) (F:=[]) (by simp) (by simp[dw]) ?_;simp only[Rp];exact⟨_,_,_,rfl,rfl,B,L,λ_=>jE,by omega,by simp,.inl (by simp)⟩
    ·obtain⟨_,cs0,F0,_,_,QF,amy⟩:=A 0 (by omega);have SY:=amy 0 U1;simp only[sq]at SY;have e00:(a.add 0).add 0=a:=by simp[Addr.add]
     rw[e00,fu (by omega)]at SY;have ha:=Rn SY;obtain⟨es,xs,G,x1,S,x3,x4⟩:=Io (w:=w) (s:=s) (k:=P.cellsOf r) (b:=a.block) len a.off (λi C=>by
      obtain⟨g,m,F,ok,U3,N,Qx⟩:=A i C;refine⟨g,m,F,ok,U3,λj c hu=>?_,N⟩;have hj:j < P.cellsOf r:=by rw[<- N];exact (bq.1 hu).1
      have Q:=Qx j hj;rw[ha,qG,qG,hu]at Q;exact Q)
     refine out (es:=es) (F:=(a.block,a.off+len * kw s)::G) (by omega) S ?_;simp only[Rp];refine⟨Z a,len,K,rfl,x1.symm,B,L,λX e Y=>(S.mem e Y).flat X,by omega,λe Y=>(S.mem e Y).length,.inr ⟨by omega,a.block,a.off,xs,G,congrArg Z ha,rfl,x3,x4⟩⟩
end
def EY(P:Program)(rel:M (TypeId×Nat)):M Field->M Nat->Nat->Nat->Bool
 |[],[],off,all=>off ==all
 |f::fs,t::a,off,all=>f.offset ==off && rel.contains (f.type,t) && EY P rel fs a (off+P.cellsOf f.type) all
 |_,_,_,_=>J
def Ty.same:Ty->Ty->Bool
 | .int,.int=>I
 | .bool,.bool=>I
 | .str,.str=>I
 | .list a,.list b=>a ==b
 |_,_=>J
def u6:M Ty->M Ty->Bool
 |[],[]=>I
 |a::as,b::c=>a.same b && u6 as c
 |_,_=>J
theorem Ty.acU:∀{a b:Ty},a.same b=I->a=b
 | .int,.int,_=>rfl
 | .bool,.bool,_=>rfl
 | .str,.str,_=>rfl
 | .list a,.list b,h=>by simp only[Ty.same,beq_iff_eq]at h;rw[h]
 | .int,.bool,h | .int,.str,h | .int,.list _,h | .bool,.int,h | .bool,.str,h | .bool,.list _,h | .str,.int,h | .str,.bool,h | .str,.list _,h | .list _,.int,h | .list _,.bool,h | .list _,.str,h=>by cases h
theorem oL:∀{a b:M Ty},u6 a b=I->a=b
 |[],[],_=>rfl
 |a::as,b::c,h=>by
  simp only[u6,ai]at h;rw[Ty.acU h.1,oL h.2]
 |[],_::_,h|_::_,[],h=>by cases h
def LV(P:Program)(rel:M (TypeId×Nat)):Bool:=
 rel.all λx=>match P.underlying x.1,kty x.2 with
  |some (.int .i64),.int=>u6 (qO x.2) [.int]
  |some .bool,.bool=>u6 (qO x.2) [.bool]
  |some .string,.str=>u6 (qO x.2) [.str]
  |some (.slice a),.list e s=>rel.contains (a,e) && u6 (qO x.2) [.list s] && u6 (lay s) (qO e) && Z' (0 < P.cellsOf a) && Z' (kw s=P.cellsOf a)
  |some (.struct fs),.agg b=>u6 (qO x.2) (NB b) && EY P rel fs.toList b 0 (P.cellsOf x.1)
  |_,_=>J
theorem NA{P:Program}{rel:M (TypeId×Nat)}:∀(fs:M Field) (b:M Nat) (off a:Nat),EY P rel fs b off a=I->yg P (λt c=>(t,c)∈rel) fs b off a
 |[],[],off,a,h=>by simpa [EY,yg] using h
 |[],_::_,_,_,h=>by simp[EY]at h
 |_::_,[],_,_,h=>by simp[EY]at h
 |f::fs,t::b,off,a,h=>by
  simp only[EY,ai,beq_iff_eq,List.contains_iff_mem]at h;simp only[yg];exact⟨h.1.1,h.1.2,NA fs b _ a h.2⟩
theorem uZ{P:Program}{rel:M (TypeId×Nat)}(h:LV P rel=I):WO P (λt c=>(t,c)∈rel):=by
 intro t c g;have a:=bw.1 h (t,c) g;dsimp only at a;cases f:P.underlying t with
 |none=>rw[f]at a;cases b:kty c<;>rw[b]at a<;>simp at a
 |some d=>
  rw[f]at a;cases b:kty c with
  |int=>rw[b]at a;dsimp only;split at a<;>simp_all;exact oL a
  |bool=>rw[b]at a;dsimp only;split at a<;>simp_all;exact oL a
  |str=>rw[b]at a;dsimp only;split at a<;>simp_all;exact oL a
  |list e s=>
   rw[b]at a;dsimp only
   split at a<;>simp_all
   exact⟨oL a.1.1.1.2,oL a.1.1.2⟩
  |agg i=>
   rw[b]at a;dsimp only
   split at a<;>simp_all
   exact⟨oL a.1,NA _ _ _ _ a.2⟩
def WI(w:World)(a:A)(v:Value)(G:Fp):Prop:=∃c e b,a=.val c (e.map .d)/\fp w e b G/\(c=I->v=.agg b.toArray)/\(c=J->b=[v])
def vH(w:World):M A->M Value->Fp->Prop
 |[],b,G=>b=[]/\G=[]
 |a::as,b,G=>∃v c d G2,b=v::c/\G=d++G2/\WI w a v d/\vH w as c G2
theorem Bg{w:World}:vH w [] [] []:=⟨rfl,rfl⟩
theorem lL{w:World}{a:A}{v:Value}{as:M A}{b:M Value}{c G2:Fp}(h:WI w a v c)(d:vH w as b G2):vH w (a::as) (v::b) (c++G2):=⟨v,b,c,G2,rfl,rfl,h,d⟩
theorem tu{w:World}{d:D}{v:Value}{G:Fp}(h:fp w [d] [v] G):WI w (.val J [.d d]) v G:=⟨J,[d],[v],rfl,h,(λh=>by cases h),λ_=>rfl⟩
theorem MN{w:World}{b:M D}{a:M Value}{G:Fp}(h:fp w b a G):WI w (.val I (b.map .d)) (.agg a.toArray) G:=⟨I,b,a,rfl,h,λ_=>rfl,(λh=>by cases h)⟩
theorem WY{w:World}{n:Int}(h:IntKind.i64.wrap n=n):WI w (.val J [.d (.int .i64 n)]) (.int .i64 n) []:=tu (by simp only[fp];exact⟨_,[],[],[],rfl,rfl,by simp only[Rp,true_and];exact h,rfl,rfl⟩)
def QZ:Fp->Nat
 |[]=>0
 |be::G=>be.2+QZ G
theorem TH:∀{G:Fp} {a:Nat×Nat},a∈G->a.2<=QZ G
 |b::G,a,h=>by
  rcases aL.1 h with rfl|h
  ·simp only[QZ];omega
  ·have:=TH h;simp only[QZ];omega
def hOf(n m:Nat)(g:Nat):Nat:=if g < n then m else 0
theorem Ub{w:World}{h:Nat->Nat}:∀{e:M D} {b:M Value} {G:Fp},fp w e b G->eI h G->iZ h w (e.map .d) b []
 |[],b,G,a,_=>by simp only[fp]at a;simp[iZ,a.1]
 |d::e,b,G,a,g=>by
  simp only[fp]at a;obtain⟨v,k,l,m,rfl,rfl,j,i⟩:=a;simp only[aW,iZ];exact⟨v,k,[],[],rfl,rfl,⟨rfl,l,j,λf c=>g f (by simp[c])⟩,Ub i (λf c=>g f (by simp[c]))⟩
theorem WZ{w:World}{h:Nat->Nat}:∀{as:M A} {c:M Value} {G:Fp},vH w as c G->eI h G->na h w as c []
 |[],c,G,b,_=>by simp only[vH]at b;simp[na,b.1]
 |a::as,c,G,b,f=>by
  simp only[vH]at b;obtain⟨v,m,q,p,rfl,rfl,⟨o,n,g,rfl,l,k,j⟩,i⟩:=b;simp only[na];exact⟨v,m,[],[],rfl,rfl,⟨g,Ub l (λe d=>f e (by simp[d])),k,j⟩,WZ i (λe d=>f e (by simp[d]))⟩
theorem MO{w:World}:∀{as:M A} {e:M Value} {G:Fp},vH w as e G->∀d∈G,d.1 < w.heap.size
 |[],e,G,c,d,b=>by simp only[vH]at c;rw[c.2]at b;simp at b
 |a::as,e,G,c,d,b=>by
  simp only[vH]at c;obtain⟨v,j,m,l,rfl,rfl,⟨k,h,i,rfl,g,_⟩,f⟩:=c;rcases ba.1 b with b|b
  ·exact fp.lt h g d b
  ·exact MO f d b
theorem FZ{P:Program}{num:Nat->FuncId}{T:Nat->u KF}(t:P.follows .mixedOrders=I)(x:Ur P num)(H:∀f h,T f=Z h->OkK P num f h){f:Nat}{h:KF}(X:okF P num f h=I){args:M A}(N:run T (gl T) h args=Z ([.val J [.d (.bool I)]],[]))
  {w:World} {l:M Value} {G:Fp} (U:R8 P w []) (F:vH w args l G):Calls P (num f) l.toArray w λe B=>e=.returned (.bool I)/\Below w.heap.size w B:=by
 obtain⟨n,R⟩:=agI T (n:=0) N;have V:=IN t x (λg a r o=>xp t x H n g a r o) (λg ag W q Q L=>IK t x H n g ag W q Q L) X (R n (aD _));refine (V w (hOf w.heap.size (QZ G)) l [] U (WZ F (λY D=>?_)) List.nodup_nil (λg k=>by simp at k) (λg k=>?_)).mono λe B ⟨v,us,F1,F2,h',S,c,C,_,_,_,j⟩=>?_
 ·have:=MO F Y D;simp only[hOf,this,if_true];exact TH D
 ·simp only[hOf];rw[if_neg (by omega)]
 ·simp only[na,AR,iZ,Ik]at C;obtain⟨b,fx,_,_,rfl,_,⟨m,⟨v1,K,_,_,i,_,⟨_,G',y,_⟩,U6,_⟩,_,p⟩,rfl,_⟩:=C;have s:m=[b]:=p trivial;rw[U6]at i;rw[i]at s;simp only[cl,and_true]at s;subst s;simp only[Rp]at y;rcases c with c|⟨c,_⟩
  ·simp only[cl,and_true]at c;subst c;exact⟨by rw[S,y.1],⟨j.os,j.tape,j.output,j.size,λg k=>j.block g k (by simp)⟩⟩
  ·simp at c
end
end Go.Proofs.YtnnjajingjfjiaaGreatDoor
