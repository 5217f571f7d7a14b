/- Part of the proof: a machine over plain data, its proof, the functions of the program run on symbols, what they answer. Condition: none. -/
import Derived.ProofKit
import Derived.OpenShut
import Derived.Below
import Derived.Test.YthlpjklbafakfaaGreatDoorZz02
set_option linter.unusedVariables false
set_option linter.unusedSimpArgs false
open Bool renaming and_eq_true->af,true->I,false->J
open List renaming cons_append->aq,mem_cons->aP,mem_append->aS,map_cons->aW,all_eq_true->bg,take_append_drop->bh,getElem?_eq_some_iff->bm,all_cons->bJ,getElem?_append_left->dW,drop_of_length_le->eJ,getElem?_eq_getElem->fD,drop_drop->kO,getElem?_append_right->rn,getElem_of_mem->zH
open Nat renaming le_refl->au,succ_mul->n8
open Option renaming some->Z,none->O
open Decidable renaming decide->Z'
namespace Go.Proofs.YthlpjklbafakfaaGreatDoor
section
open Go.RowKit Go.ChangeShapes Go.WideShapes
inductive KTD where
 |int
 |bool
 |str
 |byte
 |list (e s:Nat)
 |agg (ts:List Nat)
def kty:Nat->KTD
 |0=>.int
 |1=>.bool
 |2=>.str
 |3=>.list 2 0
 |4=>.agg [2,3,0,1]
 |5=>.list 4 1
 |6=>.agg [2,2,7]
 |7=>.list 6 2
 |8=>.agg [0,2,2,9]
 |9=>.list 8 3
 |10=>.agg [0,0,9]
 |11=>.list 10 4
 |12=>.agg [7,11]
 |13=>.agg [0,0]
 |14=>.list 13 6
 |15=>.agg [0,14,3,2,2]
 |16=>.agg [2,2]
 |17=>.list 16 8
 |18=>.agg [2,17]
 |19=>.list 18 9
 |20=>.agg [1,0,19]
 |21=>.agg [0,0,2,20,22]
 |22=>.list 21 11
 |23=>.agg [0,2,15,3,3,2,1,1,1,1,0,0,22,22,24]
 |24=>.list 23 12
 |25=>.agg [7,0,0]
 |26=>.list 25 13
 |27=>.agg [1,0,0,2,7]
 |28=>.agg [24,7,7,0,26,27]
 |29=>.byte
 |30=>.list 29 16
 |_=>.int
def sP:Nat->M Ty
 |0=>[.int]
 |1=>[.bool]
 |2=>[.str]
 |3=>[.list 0]
 |4=>[.str,.list 0,.int,.bool]
 |5=>[.list 1]
 |6=>[.str,.str,.list 2]
 |7=>[.list 2]
 |8=>[.int,.str,.str,.list 3]
 |9=>[.list 3]
 |10=>[.int,.int,.list 3]
 |11=>[.list 4]
 |12=>[.list 2,.list 4]
 |13=>[.int,.int]
 |14=>[.list 6]
 |15=>[.int,.list 6,.list 0,.str,.str]
 |16=>[.str,.str]
 |17=>[.list 8]
 |18=>[.str,.list 8]
 |19=>[.list 9]
 |20=>[.bool,.int,.list 9]
 |21=>[.int,.int,.str,.bool,.int,.list 9,.list 11]
 |22=>[.list 11]
 |23=>[.int,.str,.int,.list 6,.list 0,.str,.str,.list 0,.list 0,.str,.bool,.bool,.bool,.bool,.int,.int,.list 11,.list 11,.list 12]
 |24=>[.list 12]
 |25=>[.list 2,.int,.int]
 |26=>[.list 13]
 |27=>[.bool,.int,.int,.str,.list 2]
 |28=>[.list 12,.list 2,.list 2,.int,.list 13,.bool,.int,.int,.str,.list 2]
 |29=>[.byte]
 |30=>[.list 16]
 |_=>[.int]
def K7:M Nat->M Ty
 |[]=>[]
 |t::a=>sP t++K7 a
def wL(P:Program)(R:TypeId->Nat->Prop):M Field->M Nat->Nat->Nat->Prop
 |[],[],off,all=>off=all
 |f::fs,t::a,off,all=>f.offset=off/\R f.type t/\wL P R fs a (off+P.cellsOf f.type) all
 |_,_,_,_=>False
def T9(P:Program)(R:TypeId->Nat->Prop):Prop:=
 ∀t a,R t a->match kty a with
  | .int=>P.underlying t=Z (.int .i64)/\sP a=[.int]
  | .bool=>P.underlying t=Z .bool/\sP a=[.bool]
  | .str=>P.underlying t=Z .string/\sP a=[.str]
  | .byte=>P.underlying t=Z (.int .u8)/\sP a=[.byte]
  | .list e s=>∃b,P.underlying t=Z (.slice b)/\R b e/\sP a=[.list s]/\lay s=sP e/\0 < P.cellsOf b/\kw s=P.cellsOf b
  | .agg c=>∃fs,P.underlying t=Z (.struct fs)/\sP a=K7 c/\wL P R fs.toList c 0 (P.cellsOf t)
theorem gX.append{B:Nat}:∀{b a:M Ty} {c es:M D},gX B b c->gX B a es->gX B (b++a) (c++es)
 |[],_,[],_,_,h=>h
 |t::b,a,d::c,es,h,e=>by simp only[gX]at h;simp only[aq,gX];exact⟨h.1,gX.append h.2 e⟩
 |[],_,_::_,_,h,_|_::_,_,[],_,h,_=>by simp only[gX]at h
theorem gX.flat{B:Nat}:∀{b:M Ty} {e:M D},gX B b e->b.all Ty.plain=I->∀x∈e,D.plain x=I
 |[],[],_,_,x,a=>by simp at a
 |t::b,d::e,h,c,x,a=>by
  simp only[gX]at h;simp only[bJ,af]at c;rcases aP.1 a with rfl|a
  ·cases t with
   |int=>obtain⟨n,rfl,_⟩:=h.1.lU;rfl
   |bool=>obtain⟨n,rfl⟩:=h.1.na;rfl
   |str=>obtain⟨n,rfl,_⟩:=h.1.j9;rfl
   |byte=>obtain⟨n,rfl,_⟩:=h.1.rI;rfl
   |list s=>simp[Ty.plain]at c
  ·exact gX.flat h.2 c.2 x a
 |[],_::_,h,_,_,_|_::_,[],h,_,_,_=>by simp only[gX]at h
theorem F7{w:World}{s k b:Nat}:∀(len o:Nat),(∀i,i < len->∃e c F,gX maxLen (lay s) e/\fV w e c F/\jo w b (o+i * k) c/\c.length=k)->
  ∃es d G,es.length=len/\hO maxLen s es/\fQ w es d G/\jo w b o d
 |0,o,_=>⟨[],[],[],rfl,by simp[hO],by simp[fQ],λj a h=>by simp at h⟩
 |len+1,o,h=>by
  obtain⟨e,c,F,m,l,g,n⟩:=h 0 (by omega);obtain⟨es,d,G,a1,a2,a3,a4⟩:=F7 len (o+k) (λi q=>by
   obtain⟨e,c,F,m,l,g,n⟩:=h (i+1) (by omega);refine⟨e,c,F,m,l,?_,n⟩;rw[show o+k+i * k=o+(i+1) * k from by rw[n8];omega];exact g)
  refine⟨e::es,c++d,F++G,by simp[a1],⟨m,a2⟩,?_,?_⟩
  ·simp only[fQ];exact⟨c,d,F,G,rfl,rfl,l,a3⟩
  ·intro j a f;by_cases p:j < c.length
   ·rw[dW p]at f;have:=g j a f
    simpa using this
   ·rw[rn (by omega)]at f;have:=a4 (j - c.length) a f;rw[show o+k+(j - c.length)=o+j by omega]at this;exact this
theorem X_{n:Int}(h:0<=n/\n<=255):IntKind.u8.wrap n=n:=by
 simp only[IntKind.wrap,IntKind.bits,IntKind.signed];simp
 omega
section
variable {H:Type} {enc:TypeId×Value->H} {P:Program} {w:World} {spare:Nat->Bool} {held:Bool} {R:TypeId->Nat->Prop}
theorem F8{n c:Nat}{a:M Value}(l:∀t k a x,DataW.trod enc P w 0 spare held n t a=Z x->R t k->∃b F,gX maxLen (sP k) b/\fV w b a F)(q:a.length=c) :
  ∀(fs:M Field) (d:M Nat) (off:Nat),wL P R fs d off c->(∀f∈fs,∃x,DataW.trod enc P w 0 spare held n f.type ((a.drop f.offset).take (P.cellsOf f.type))=Z x)->
   ∃b F,gX maxLen (K7 d) b/\fV w b (a.drop off) F
 |[],[],off,h,_=>by
  simp only[wL]at h;refine⟨[],[],by simp[K7,gX],?_⟩;rw[eJ (by omega)];simp[fV]
 |[],_::_,off,h,_=>by simp only[wL]at h
 |_::_,[],off,h,_=>by simp only[wL]at h
 |f::fs,t::d,off,h,m=>by
  simp only[wL]at h;obtain⟨rfl,v,s⟩:=h;obtain⟨x,j⟩:=m f (by simp);obtain⟨b,F,ok,p⟩:=l _ t _ x j v;obtain⟨o,G,i,y⟩:=F8 l q fs d _ s (λg r=>m g (by simp[r]));refine⟨b++o,F++G,gX.append ok i,?_⟩;have e:a.drop f.offset=(a.drop f.offset).take (P.cellsOf f.type)++a.drop (f.offset+P.cellsOf f.type):=by
   rw[<- kO,bh]
  rw[e];exact fV.append b p y
theorem Oi{a:Addr}{v:Value}(h:w.cell? a=Z v):a=⟨a.block,a.off,O⟩:=by
 obtain⟨b,o,c⟩:=a;cases c with
 |none=>rfl
 |some k=>
  unfold World.cell? at h
  split at h
  ·simp at h
  ·cases h
theorem Xj(hR:T9 P R):∀(fuel:Nat) (t:TypeId) (o:Nat) (m:M Value) (x:DataW H×M MemPlace),DataW.trod enc P w 0 spare held fuel t m=Z x->R t o->∃l F,gX maxLen (sP o) l/\fV w l m F
 |0,t,o,m,x,h,_=>by simp[DataW.trod]at h
 |fuel+1,t,o,m,x,h,V=>by
  have B6:∀{d:D} {v:Value},Rp w d v []->fV w [d] [v] []:=λh=>by simp only[fV];exact⟨_,[],[],[],rfl,rfl,h,rfl,rfl⟩
  have g:=hR t o V;cases y:kty o with
  |int=>
   rw[y]at g;obtain⟨n,rfl,_,Q⟩:=DataW.trod_int g.1 h;have hb:=bounds_i64 Q;refine⟨[.int .i64 n],[],?_,B6 ?_⟩
   ·rw[g.2];simp only[gX,Ok,and_true,true_and];omega
   ·simp only[Rp,true_and];exact ij (by omega)
  |bool=>
   rw[y]at g;obtain⟨b,rfl,_⟩:=DataW.trod_bool g.1 h;refine⟨[.bool b],[],?_,B6 ?_⟩
   ·rw[g.2];simp only[gX,Ok,and_true]
   ·simp only[Rp,true_and]
  |str=>
   rw[y]at g;obtain⟨s,rfl,_,W⟩:=DataW.trod_string g.1 h;have sy:s.size<=maxLen:=by simpa [maxLen] using W
   refine⟨[.str s],[],?_,B6 ?_⟩
   ·rw[g.2];simp only[gX,Ok,and_true];exact sy
   ·simp only[Rp,true_and];exact sy
  |byte=>
   rw[y]at g;obtain⟨n,rfl,_,Q⟩:=DataW.trod_int g.1 h;have hb:0<=n/\n<=255:=by
    simp only[Lit.wf,af,decide_eq_true_eq]at Q;exact Q
   refine⟨[.int .u8 n],[],?_,B6 ?_⟩
   ·rw[g.2];simp only[gX,Ok,and_true,true_and];omega
   ·simp only[Rp,true_and];exact X_ (by omega)
  |agg ts=>
   rw[y]at g;obtain⟨fs,hU,U,hF⟩:=g;obtain⟨xs,n,hn,_,W,B2,Y⟩:=DataW.trod_struct hU h;have Nl:n=fuel:=by omega
   subst Nl;obtain⟨l,F,ok,sC⟩:=F8 (λt o m x h V=>Xj hR n t o m x h V) W fs.toList ts 0 hF (λf X=>by
    obtain⟨i,C,e⟩:=zH X;have uU:i < fs.size:=by simpa using C
    have q:=Y i f (by rw[<- e];simp[uU]);rw[fD (by omega)]at q;exact⟨_,q⟩)
   exact⟨l,F,by rw[U];exact ok,by simpa using sC⟩
  |list e s=>
   rw[y]at g;obtain⟨r,hU,hRe,U,alb,adm,hkw⟩:=g;have out:∀{v:Value} {es:M (M D)} {F:Fp},es.length<=maxLen->hO maxLen s es->Rp w (.list (kw s) (Bt s) es) v F->∃l F,gX maxLen (sP o) l/\fV w l [v] F:=by
    intro v es F q S h3;refine⟨[.list (kw s) (Bt s) es],F,?_,?_⟩
    ·rw[U];simp only[gX,Ok,and_true,true_and];exact⟨q,S⟩
    ·simp only[fV];exact⟨v,[],F,[],rfl,by simp,h3,rfl,rfl⟩
   rcases DataW.trod_slice hU h with ⟨rfl,_⟩|⟨a,len,K,elems,rest,n,hn,rfl,_,_,B,hcm,JV,ak7,_⟩
   ·refine out (es:=[]) (F:=[]) (by simp) (by simp[hO]) ?_;simp only[Rp];exact⟨O,0,0,rfl,rfl,au _,by simp[maxLen],λ_=>km,by omega,by simp,.inl (by simp)⟩
   ·have Nl:n=fuel:=by omega
    subst Nl;have L:K<=maxLen:=by simpa [maxLen] using hcm
    have A:∀i,i < len->∃l m F,gX maxLen (lay s) l/\fV w l m F/\m.length=P.cellsOf r/\∀j,j < P.cellsOf r->w.cell? ((a.add (i * P.cellsOf r)).add j)=m[j]?:=by
     intro i C;have q:=ak7 i C;rw[fD (by omega)]at q;obtain⟨jP,hc,ht⟩:=Option.bind_eq_some_iff.1 q;obtain⟨_,N,Zu⟩:=World.cells?_some hc;obtain⟨l,F,ok,RN⟩:=Xj hR n r e jP _ ht hRe;exact⟨l,jP,F,by rw[alb];exact ok,RN,N,Zu⟩
    by_cases h0:len=0
    ·subst h0;refine out (es:=[]) (F:=[]) (by simp) (by simp[hO]) ?_;simp only[Rp];exact⟨_,_,_,rfl,rfl,B,L,λ_=>km,by omega,by simp,.inl (by simp)⟩
    ·obtain⟨_,cs0,F0,_,_,Nk,akZ⟩:=A 0 (by omega);have p:=akZ 0 adm;simp only[Nat.zero_mul]at p;have e00:(a.add 0).add 0=a:=by simp[Addr.add]
     rw[e00,fD (by omega)]at p;have ha:=Oi p;obtain⟨es,xs,G,x1,T,x3,x4⟩:=F7 (w:=w) (s:=s) (k:=P.cellsOf r) (b:=a.block) len a.off (λi C=>by
      obtain⟨l,m,F,ok,RN,N,Zu⟩:=A i C;refine⟨l,m,F,ok,RN,λj c hu=>?_,N⟩;have hj:j < P.cellsOf r:=by rw[<- N];exact (bm.1 hu).1
      have S:=Zu j hj;rw[ha,pz,pz,hu]at S;exact S)
     refine out (es:=es) (F:=(a.block,a.off+len * kw s)::G) (by omega) T ?_;simp only[Rp];refine⟨Z a,len,K,rfl,x1.symm,B,L,λY e he=>(T.mem e he).flat Y,by omega,λe he=>(T.mem e he).length,.inr ⟨by omega,a.block,a.off,xs,G,congrArg Z ha,rfl,x3,x4⟩⟩
end
def Dg(P:Program)(rel:M (TypeId×Nat)):M Field->M Nat->Nat->Nat->Bool
 |[],[],off,all=>off ==all
 |f::fs,t::a,off,all=>f.offset ==off && rel.contains (f.type,t) && Dg P rel fs a (off+P.cellsOf f.type) all
 |_,_,_,_=>J
def Ty.same:Ty->Ty->Bool
 | .int,.int=>I
 | .bool,.bool=>I
 | .str,.str=>I
 | .byte,.byte=>I
 | .list a,.list b=>a ==b
 |_,_=>J
def q_:M Ty->M Ty->Bool
 |[],[]=>I
 |a::as,b::c=>a.same b && q_ as c
 |_,_=>J
theorem Ty.aaY:∀{a b:Ty},a.same b=I->a=b
 | .int,.int,_=>rfl
 | .bool,.bool,_=>rfl
 | .str,.str,_=>rfl
 | .byte,.byte,_=>rfl
 | .list a,.list b,h=>by simp only[Ty.same,beq_iff_eq]at h;rw[h]
 | .int,.bool,h | .int,.str,h | .int,.list _,h | .bool,.int,h | .bool,.str,h | .bool,.list _,h | .str,.int,h | .str,.bool,h | .str,.list _,h | .list _,.int,h | .list _,.bool,h | .list _,.str,h | .byte,.int,h | .byte,.bool,h | .byte,.str,h | .byte,.list _,h | .int,.byte,h | .bool,.byte,h | .str,.byte,h | .list _,.byte,h=>by cases h
theorem mU:∀{a b:M Ty},q_ a b=I->a=b
 |[],[],_=>rfl
 |a::as,b::c,h=>by
  simp only[q_,af]at h;rw[Ty.aaY h.1,mU h.2]
 |[],_::_,h|_::_,[],h=>by cases h
def Xk(P:Program)(rel:M (TypeId×Nat)):Bool:=
 rel.all λx=>match P.underlying x.1,kty x.2 with
  |some (.int .i64),.int=>q_ (sP x.2) [.int]
  |some .bool,.bool=>q_ (sP x.2) [.bool]
  |some .string,.str=>q_ (sP x.2) [.str]
  |some (.int .u8),.byte=>q_ (sP x.2) [.byte]
  |some (.slice a),.list e s=>rel.contains (a,e) && q_ (sP x.2) [.list s] && q_ (lay s) (sP e) && Z' (0 < P.cellsOf a) && Z' (kw s=P.cellsOf a)
  |some (.struct fs),.agg b=>q_ (sP x.2) (K7 b) && Dg P rel fs.toList b 0 (P.cellsOf x.1)
  |_,_=>J
theorem K5{P:Program}{rel:M (TypeId×Nat)}:∀(fs:M Field) (b:M Nat) (off a:Nat),Dg P rel fs b off a=I->wL P (λt c=>(t,c)∈rel) fs b off a
 |[],[],off,a,h=>by simpa [Dg,wL] using h
 |[],_::_,_,_,h=>by simp[Dg]at h
 |_::_,[],_,_,h=>by simp[Dg]at h
 |f::fs,t::b,off,a,h=>by
  simp only[Dg,af,beq_iff_eq,List.contains_iff_mem]at h;simp only[wL];exact⟨h.1.1,h.1.2,K5 fs b _ a h.2⟩
theorem aaT{P:Program}{rel:M (TypeId×Nat)}(h:Xk P rel=I):T9 P (λt c=>(t,c)∈rel):=by
 intro t c g;have a:=bg.1 h (t,c) g;dsimp only at a;cases f:P.underlying t with
 |none=>rw[f]at a;cases b:kty c<;>rw[b]at a<;>simp at a
 |some d=>
  rw[f]at a;cases b:kty c with
  |int=>rw[b]at a;dsimp only;split at a<;>simp_all;exact mU a
  |bool=>rw[b]at a;dsimp only;split at a<;>simp_all;exact mU a
  |str=>rw[b]at a;dsimp only;split at a<;>simp_all;exact mU a
  |byte=>rw[b]at a;dsimp only;split at a<;>simp_all;exact mU a
  |list e s=>
   rw[b]at a;dsimp only
   split at a<;>simp_all
   exact⟨mU a.1.1.1.2,mU a.1.1.2⟩
  |agg i=>
   rw[b]at a;dsimp only
   split at a<;>simp_all
   exact⟨mU a.1,K5 _ _ _ _ a.2⟩
def acp(w:World)(a:A)(v:Value)(G:Fp):Prop:=∃c e b,a=.val c (e.map .d)/\fV w e b G/\(c=I->v=.agg b.toArray)/\(c=J->b=[v])
def uu(w:World):M A->M Value->Fp->Prop
 |[],b,G=>b=[]/\G=[]
 |a::as,b,G=>∃v c d G2,b=v::c/\G=d++G2/\acp w a v d/\uu w as c G2
theorem Ra{w:World}:uu w [] [] []:=⟨rfl,rfl⟩
theorem MU{w:World}{a:A}{v:Value}{as:M A}{b:M Value}{c G2:Fp}(h:acp w a v c)(d:uu w as b G2):uu w (a::as) (v::b) (c++G2):=⟨v,b,c,G2,rfl,rfl,h,d⟩
theorem Ue{w:World}{d:D}{v:Value}{G:Fp}(h:fV w [d] [v] G):acp w (.val J [.d d]) v G:=⟨J,[d],[v],rfl,h,(λh=>by cases h),λ_=>rfl⟩
def NO:Fp->Nat
 |[]=>0
 |be::G=>be.2+NO G
theorem P8:∀{G:Fp} {a:Nat×Nat},a∈G->a.2<=NO G
 |b::G,a,h=>by
  rcases aP.1 h with rfl|h
  ·simp only[NO];omega
  ·have:=P8 h;simp only[NO];omega
def hOf(n m:Nat)(g:Nat):Nat:=if g < n then m else 0
theorem QP{w:World}{h:Nat->Nat}:∀{e:M D} {b:M Value} {G:Fp},fV w e b G->eM h G->jr h w (e.map .d) b []
 |[],b,G,a,_=>by simp only[fV]at a;simp[jr,a.1]
 |d::e,b,G,a,g=>by
  simp only[fV]at a;obtain⟨v,k,l,m,rfl,rfl,j,i⟩:=a;simp only[aW,jr];exact⟨v,k,[],[],rfl,rfl,⟨rfl,l,j,λf c=>g f (by simp[c])⟩,QP i (λf c=>g f (by simp[c]))⟩
theorem Uf{w:World}{h:Nat->Nat}:∀{as:M A} {c:M Value} {G:Fp},uu w as c G->eM h G->ml h w as c []
 |[],c,G,b,_=>by simp only[uu]at b;simp[ml,b.1]
 |a::as,c,G,b,f=>by
  simp only[uu]at b;obtain⟨v,m,q,p,rfl,rfl,⟨o,n,g,rfl,l,k,j⟩,i⟩:=b;simp only[ml];exact⟨v,m,[],[],rfl,rfl,⟨g,QP l (λe d=>f e (by simp[d])),k,j⟩,Uf i (λe d=>f e (by simp[d]))⟩
theorem Ka{w:World}:∀{as:M A} {e:M Value} {G:Fp},uu w as e G->∀d∈G,d.1 < w.heap.size
 |[],e,G,c,d,b=>by simp only[uu]at c;rw[c.2]at b;simp at b
 |a::as,e,G,c,d,b=>by
  simp only[uu]at c;obtain⟨v,j,m,l,rfl,rfl,⟨k,h,i,rfl,g,_⟩,f⟩:=c;rcases aS.1 b with b|b
  ·exact fV.lt h g d b
  ·exact Ka f d b
end
end Go.Proofs.YthlpjklbafakfaaGreatDoor
