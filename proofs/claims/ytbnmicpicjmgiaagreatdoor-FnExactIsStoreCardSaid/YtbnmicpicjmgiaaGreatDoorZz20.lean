/- Part of the proof. Condition: none. -/
import Derived.ProofKit
import Derived.OpenShut
import Derived.Below
import Derived.Test.YtbnmicpicjmgiaaGreatDoorZz02
set_option linter.all false
open Bool renaming and_eq_true->aw,true->I,false->J
open List renaming cons_append->av,mem_cons->aU,mem_append->aX,getElem?_eq_some_iff->bn,map_cons->bz,all_eq_true->bF,take_append_drop->cp,drop_of_length_le->cS,all_cons->dt,getElem?_append_left->eH,getElem?_append_right->jQ,getElem?_eq_getElem->kF,drop_drop->zn
open Nat renaming le_refl->aH,succ_mul->ot
open Option renaming some->Z,none->O
open Decidable renaming decide->Z'
namespace Go.Proofs.YtbnmicpicjmgiaaGreatDoor
section
open Go.RowKit Go.ChangeShapes Go.WideShapes
inductive KTD where
 |int
 |bool
 |str
 |byte
 |list (e s:Nat)
 |agg (ts:List Nat)
def kty:Nat->KTD
 |0=>.int
 |1=>.bool
 |2=>.str
 |3=>.list 2 0
 |4=>.agg [2,3,0,1]
 |5=>.list 4 1
 |6=>.agg [2,2,7]
 |7=>.list 6 2
 |8=>.agg [0,2,2,9]
 |9=>.list 8 3
 |10=>.agg [0,0,9]
 |11=>.list 10 4
 |12=>.agg [7,11]
 |13=>.agg [0,0]
 |14=>.list 13 6
 |15=>.agg [0,14,3,2,2]
 |16=>.agg [2,2]
 |17=>.list 16 8
 |18=>.agg [2,17]
 |19=>.list 18 9
 |20=>.agg [1,0,19]
 |21=>.agg [0,0,2,20,22]
 |22=>.list 21 11
 |23=>.agg [0,2,15,3,3,2,1,1,1,1,0,0,22,22,24]
 |24=>.list 23 12
 |25=>.agg [7,0,0]
 |26=>.list 25 13
 |27=>.agg [1,0,0,2,7]
 |28=>.agg [24,7,7,0,26,27]
 |29=>.byte
 |30=>.list 29 16
 |31=>.list 0 17
 |32=>.agg [0,3,31]
 |33=>.list 32 18
 |_=>.int
def tQ:Nat->M Ty
 |0=>[.int]
 |1=>[.bool]
 |2=>[.str]
 |3=>[.list 0]
 |4=>[.str,.list 0,.int,.bool]
 |5=>[.list 1]
 |6=>[.str,.str,.list 2]
 |7=>[.list 2]
 |8=>[.int,.str,.str,.list 3]
 |9=>[.list 3]
 |10=>[.int,.int,.list 3]
 |11=>[.list 4]
 |12=>[.list 2,.list 4]
 |13=>[.int,.int]
 |14=>[.list 6]
 |15=>[.int,.list 6,.list 0,.str,.str]
 |16=>[.str,.str]
 |17=>[.list 8]
 |18=>[.str,.list 8]
 |19=>[.list 9]
 |20=>[.bool,.int,.list 9]
 |21=>[.int,.int,.str,.bool,.int,.list 9,.list 11]
 |22=>[.list 11]
 |23=>[.int,.str,.int,.list 6,.list 0,.str,.str,.list 0,.list 0,.str,.bool,.bool,.bool,.bool,.int,.int,.list 11,.list 11,.list 12]
 |24=>[.list 12]
 |25=>[.list 2,.int,.int]
 |26=>[.list 13]
 |27=>[.bool,.int,.int,.str,.list 2]
 |28=>[.list 12,.list 2,.list 2,.int,.list 13,.bool,.int,.int,.str,.list 2]
 |29=>[.byte]
 |30=>[.list 16]
 |31=>[.list 17]
 |32=>[.int,.list 0,.list 17]
 |33=>[.list 18]
 |_=>[.int]
def N6:M Nat->M Ty
 |[]=>[]
 |t::a=>tQ t++N6 a
def xN(P:Program)(R:TypeId->Nat->Prop):M Field->M Nat->Nat->Nat->Prop
 |[],[],off,all=>off=all
 |f::fs,t::a,off,all=>f.offset=off/\R f.type t/\xN P R fs a (off+P.cellsOf f.type) all
 |_,_,_,_=>False
def YF(P:Program)(R:TypeId->Nat->Prop):Prop:=
 ∀t a,R t a->match kty a with
  | .int=>P.underlying t=Z (.int .i64)/\tQ a=[.int]
  | .bool=>P.underlying t=Z .bool/\tQ a=[.bool]
  | .str=>P.underlying t=Z .string/\tQ a=[.str]
  | .byte=>P.underlying t=Z (.int .u8)/\tQ a=[.byte]
  | .list e s=>∃b,P.underlying t=Z (.slice b)/\R b e/\tQ a=[.list s]/\lay s=tQ e/\0<P.cellsOf b/\kw s=P.cellsOf b
  | .agg c=>∃fs,P.underlying t=Z (.struct fs)/\tQ a=N6 c/\xN P R fs.toList c 0 (P.cellsOf t)
theorem fX.append{B:Nat}:∀{b a:M Ty} {c es:M D},fX B b c->fX B a es->fX B (b++a) (c++es)
 |[],_,[],_,_,h=>h
 |t::b,a,d::c,es,h,e=>by simp only[fX]at h;simp only[av,fX];exact⟨h.1,fX.append h.2 e⟩
 |[],_,_::_,_,h,_|_::_,_,[],_,h,_=>by simp only[fX]at h
theorem fX.flat{B:Nat}:∀{b:M Ty} {e:M D},fX B b e->b.all Ty.plain=I->∀x∈e,D.plain x=I
 |[],[],_,_,x,a=>by simp at a
 |t::b,d::e,h,c,x,a=>by simp only[fX]at h;simp only[dt,aw]at c;rcases aU.1 a with rfl|a;{cases t with|int=>{obtain⟨n,rfl,_⟩:=h.1.ja;rfl}|bool=>{obtain⟨n,rfl⟩:=h.1.ni;rfl}|str=>{obtain⟨n,rfl,_⟩:=h.1.ku;rfl}|byte=>{obtain⟨n,rfl,_⟩:=h.1.Za;rfl}|list s=>simp[Ty.plain]at c};exact fX.flat h.2 c.2 x a
 |[],_::_,h,_,_,_|_::_,[],h,_,_,_=>by simp only[fX]at h
theorem IS{w:World}{s k b:Nat}:∀(len o:Nat),(∀i,i<len->∃e c F,fX maxLen (lay s) e/\gK w e c F/\j5 w b (o+i * k) c/\c.length=k)->
  ∃es d G,es.length=len/\ib maxLen s es/\iQ w es d G/\j5 w b o d
 |0,o,_=>⟨[],[],[],rfl,by simp[ib],by simp[iQ],λj a h=>by simp at h⟩
 |len+1,o,h=>by obtain⟨e,c,F,m,l,g,n⟩:=h 0 (by omega);obtain⟨es,d,G,a1,a2,a3,a4⟩:=IS len (o+k) (λi q=>by obtain⟨e,c,F,m,l,g,n⟩:=h (i+1) (by omega);refine⟨e,c,F,m,l,?_,n⟩;rw[show o+k+i * k=o+(i+1) * k from by rw[ot];omega];exact g);refine⟨e::es,c++d,F++G,by simp[a1],⟨m,a2⟩,?_,?_⟩;{simp only[iQ];exact⟨c,d,F,G,rfl,rfl,l,a3⟩};intro j a f;by_cases p:j<c.length;{rw[eH p]at f;have:=g j a f;simpa using this};rw[jQ (by omega)]at f;have:=a4 (j - c.length) a f;rw[show o+k+(j - c.length)=o+j by omega]at this;exact this
def adl{n:Int}(h:0<=n/\n<=255):IntKind.u8.wrap n=n:=by simp only[IntKind.wrap,IntKind.bits,IntKind.signed];simp;omega
section
variable {H:Type} {enc:TypeId×Value->H} {P:Program} {w:World} {spare:Nat->Bool} {held:Bool} {R:TypeId->Nat->Prop}
theorem IT{n c:Nat}{a:M Value}(l:∀t k a x,DataW.trod enc P w 0 spare held n t a=Z x->R t k->∃b F,fX maxLen (tQ k) b/\gK w b a F)(q:a.length=c) :
  ∀(fs:M Field) (d:M Nat) (off:Nat),xN P R fs d off c->(∀f∈fs,∃x,DataW.trod enc P w 0 spare held n f.type ((a.drop f.offset).take (P.cellsOf f.type))=Z x)->
   ∃b F,fX maxLen (N6 d) b/\gK w b (a.drop off) F
 |[],[],off,h,_=>by simp only[xN]at h;refine⟨[],[],by simp[N6,fX],?_⟩;rw[cS (by omega)];simp[gK]
 |[],_::_,off,h,_=>by simp only[xN]at h
 |_::_,[],off,h,_=>by simp only[xN]at h
 |f::fs,t::d,off,h,m=>by simp only[xN]at h;obtain⟨rfl,v,s⟩:=h;obtain⟨x,j⟩:=m f (by simp);obtain⟨b,F,ok,p⟩:=l _ t _ x j v;obtain⟨o,G,i,y⟩:=IT l q fs d _ s (λg r=>m g (by simp[r]));refine⟨b++o,F++G,fX.append ok i,?_⟩;have e:a.drop f.offset=(a.drop f.offset).take (P.cellsOf f.type)++a.drop (f.offset+P.cellsOf f.type):=by{rw[<- zn,cp]};rw[e];exact gK.append b p y
theorem RO{a:Addr}{v:Value}(h:w.cell? a=Z v):a=⟨a.block,a.off,O⟩:=by obtain⟨b,o,c⟩:=a;cases c with|none=>{rfl}|some k=>unfold World.cell? at h;split at h;{simp at h};cases h
theorem acb(hR:YF P R):∀(fuel:Nat) (t:TypeId) (o:Nat) (m:M Value) (x:DataW H×M MemPlace),DataW.trod enc P w 0 spare held fuel t m=Z x->R t o->∃l F,fX maxLen (tQ o) l/\gK w l m F
 |0,t,o,m,x,h,_=>by simp[DataW.trod]at h
 |fuel+1,t,o,m,x,h,W=>by (have Dz:∀{d:D} {v:Value},Rp w d v []->gK w [d] [v] []:=λh=>by simp only[gK];exact⟨_,[],[],[],rfl,rfl,h,rfl,rfl⟩);have g:=hR t o W;cases A:kty o with|int=>{rw[A]at g;obtain⟨n,rfl,_,S⟩:=DataW.trod_int g.1 h;have hb:=bounds_i64 S;refine⟨[.int .i64 n],[],?_,Dz ?_⟩;{rw[g.2];simp only[fX,Ok,and_true,true_and];omega};simp only[Rp,true_and];exact iJ (by omega)}|bool=>{rw[A]at g;obtain⟨b,rfl,_⟩:=DataW.trod_bool g.1 h;refine⟨[.bool b],[],?_,Dz ?_⟩;{rw[g.2];simp only[fX,Ok,and_true]};simp only[Rp,true_and]}|str=>{rw[A]at g;obtain⟨s,rfl,_,X⟩:=DataW.trod_string g.1 h;(have Ft:s.size<=maxLen:=by simpa [maxLen] using X);refine⟨[.str s],[],?_,Dz ?_⟩;{rw[g.2];simp only[fX,Ok,and_true];exact Ft};simp only[Rp,true_and];exact Ft}|byte=>{rw[A]at g;obtain⟨n,rfl,_,S⟩:=DataW.trod_int g.1 h;have hb:0<=n/\n<=255:=by{simp only[Lit.wf,aw,decide_eq_true_eq]at S;exact S};refine⟨[.int .u8 n],[],?_,Dz ?_⟩;{rw[g.2];simp only[fX,Ok,and_true,true_and];omega};simp only[Rp,true_and];exact adl (by omega)}|agg ts=>{rw[A]at g;obtain⟨fs,hU,U,hF⟩:=g;obtain⟨xs,n,hn,_,X,VW,hf⟩:=DataW.trod_struct hU h;(have p:n=fuel:=by omega);subst p;obtain⟨l,F,ok,rT⟩:=IT (λt o m x h W=>acb hR n t o m x h W) X fs.toList ts 0 hF (λf Y=>by obtain⟨i,K,e⟩:=List.getElem_of_mem Y;(have C5:i<fs.size:=by simpa using K);have r:=hf i f (by rw[<- e];simp[C5]);rw[kF (by omega)]at r;exact⟨_,r⟩);exact⟨l,F,by rw[U];exact ok,by simpa using rT⟩}|list e s=>rw[A]at g;obtain⟨y,hU,hRe,U,aqS,K_,hkw⟩:=g;have out:∀{v:Value} {es:M (M D)} {F:Fp},es.length<=maxLen->ib maxLen s es->Rp w (.list (kw s) (flT s) es) v F->∃l F,fX maxLen (tQ o) l/\gK w l [v] F:=by{intro v es F r T h3;refine⟨[.list (kw s) (flT s) es],F,?_,?_⟩;{rw[U];simp only[fX,Ok,and_true,true_and];exact⟨r,T⟩};simp only[gK];exact⟨v,[],F,[],rfl,by simp,h3,rfl,rfl⟩};rcases DataW.trod_slice hU h with ⟨rfl,_⟩|⟨a,len,L,elems,rest,n,hn,rfl,_,_,C,hcm,HR,aqO,_⟩;{refine out (es:=[]) (F:=[]) (by simp) (by simp[ib]) ?_;simp only[Rp];exact⟨O,0,0,rfl,rfl,aH _,by simp[maxLen],λ_=>kR,by omega,by simp,.inl (by simp)⟩};(have p:n=fuel:=by omega);subst p;(have N:L<=maxLen:=by simpa [maxLen] using hcm);have B:∀i,i<len->∃l m F,fX maxLen (lay s) l/\gK w l m F/\m.length=P.cellsOf y/\∀j,j<P.cellsOf y->w.cell? ((a.add (i * P.cellsOf y)).add j)=m[j]?:=by{intro i K;have r:=aqO i K;rw[kF (by omega)]at r;obtain⟨kh,hc,ht⟩:=Option.bind_eq_some_iff.1 r;obtain⟨_,Q,Ji⟩:=World.cells?_some hc;obtain⟨l,F,ok,VP⟩:=acb hR n y e kh _ ht hRe;exact⟨l,kh,F,by rw[aqS];exact ok,VP,Q,Ji⟩};by_cases h0:len=0;{subst h0;refine out (es:=[]) (F:=[]) (by simp) (by simp[ib]) ?_;simp only[Rp];exact⟨_,_,_,rfl,rfl,C,N,λ_=>kR,by omega,by simp,.inl (by simp)⟩};obtain⟨_,cs0,F0,_,_,K7,aqI⟩:=B 0 (by omega);have q:=aqI 0 K_;simp only[Nat.zero_mul]at q;(have e00:(a.add 0).add 0=a:=by simp[Addr.add]);rw[e00,kF (by omega)]at q;have ha:=RO q;obtain⟨es,xs,G,x1,V,x3,x4⟩:=IS (w:=w) (s:=s) (k:=P.cellsOf y) (b:=a.block) len a.off (λi K=>by obtain⟨l,m,F,ok,VP,Q,Ji⟩:=B i K;refine⟨l,m,F,ok,VP,λj c hu=>?_,Q⟩;(have hj:j<P.cellsOf y:=by rw[<- Q];exact (bn.1 hu).1);have T:=Ji j hj;rw[ha,rJ,rJ,hu]at T;exact T);refine out (es:=es) (F:=(a.block,a.off+len * kw s)::G) (by omega) V ?_;simp only[Rp];refine⟨Z a,len,L,rfl,x1.symm,C,N,λhf e he=>(V.mem e he).flat hf,by omega,λe he=>(V.mem e he).length,.inr ⟨by omega,a.block,a.off,xs,G,congrArg Z ha,rfl,x3,x4⟩⟩
end
def E7(P:Program)(rel:M (TypeId×Nat)):M Field->M Nat->Nat->Nat->Bool
 |[],[],off,all=>off ==all
 |f::fs,t::a,off,all=>f.offset ==off && rel.contains (f.type,t) && E7 P rel fs a (off+P.cellsOf f.type) all
 |_,_,_,_=>J
def Ty.same:Ty->Ty->Bool
 | .int,.int=>I
 | .bool,.bool=>I
 | .str,.str=>I
 | .byte,.byte=>I
 | .list a,.list b=>a ==b
 |_,_=>J
def so:M Ty->M Ty->Bool
 |[],[]=>I
 |a::as,b::c=>a.same b && so as c
 |_,_=>J
theorem Ty.afq:∀{a b:Ty},a.same b=I->a=b
 | .int,.int,_=>rfl
 | .bool,.bool,_=>rfl
 | .str,.str,_=>rfl
 | .byte,.byte,_=>rfl
 | .list a,.list b,h=>by simp only[Ty.same,beq_iff_eq]at h;rw[h]
 | .int,.bool,h | .int,.str,h | .int,.list _,h | .bool,.int,h | .bool,.str,h | .bool,.list _,h | .str,.int,h | .str,.bool,h | .str,.list _,h | .list _,.int,h | .list _,.bool,h | .list _,.str,h | .byte,.int,h | .byte,.bool,h | .byte,.str,h | .byte,.list _,h | .int,.byte,h | .bool,.byte,h | .str,.byte,h | .list _,.byte,h=>by cases h
theorem m_:∀{a b:M Ty},so a b=I->a=b
 |[],[],_=>rfl
 |a::as,b::c,h=>by simp only[so,aw]at h;rw[Ty.afq h.1,m_ h.2]
 |[],_::_,h|_::_,[],h=>by cases h
def acd(P:Program)(rel:M (TypeId×Nat)):Bool:=
 rel.all λx=>match P.underlying x.1,kty x.2 with
  |some (.int .i64),.int=>so (tQ x.2) [.int]
  |some .bool,.bool=>so (tQ x.2) [.bool]
  |some .string,.str=>so (tQ x.2) [.str]
  |some (.int .u8),.byte=>so (tQ x.2) [.byte]
  |some (.slice a),.list e s=>rel.contains (a,e) && so (tQ x.2) [.list s] && so (lay s) (tQ e) && Z' (0<P.cellsOf a) && Z' (kw s=P.cellsOf a)
  |some (.struct fs),.agg b=>so (tQ x.2) (N6 b) && E7 P rel fs.toList b 0 (P.cellsOf x.1)
  |_,_=>J
theorem N5{P:Program}{rel:M (TypeId×Nat)}:∀(fs:M Field) (b:M Nat) (off a:Nat),E7 P rel fs b off a=I->xN P (λt c=>(t,c)∈rel) fs b off a
 |[],[],off,a,h=>by simpa [E7,xN] using h
 |[],_::_,_,_,h=>by simp[E7]at h
 |_::_,[],_,_,h=>by simp[E7]at h
 |f::fs,t::b,off,a,h=>by simp only[E7,aw,beq_iff_eq,List.contains_iff_mem]at h;simp only[xN];exact⟨h.1.1,h.1.2,N5 fs b _ a h.2⟩
theorem afm{P:Program}{rel:M (TypeId×Nat)}(h:acd P rel=I):YF P (λt c=>(t,c)∈rel):=by intro t c g;have a:=bF.1 h (t,c) g;dsimp only at a;cases f:P.underlying t with|none=>{rw[f]at a;cases b:kty c<;>rw[b]at a<;>simp at a}|some d=>rw[f]at a;cases b:kty c with|int=>{rw[b]at a;dsimp only;split at a<;>simp_all;exact m_ a}|bool=>{rw[b]at a;dsimp only;split at a<;>simp_all;exact m_ a}|str=>{rw[b]at a;dsimp only;split at a<;>simp_all;exact m_ a}|byte=>{rw[b]at a;dsimp only;split at a<;>simp_all;exact m_ a}|list e s=>{rw[b]at a;dsimp only;split at a<;>simp_all;exact⟨m_ a.1.1.1.2,m_ a.1.1.2⟩}|agg i=>rw[b]at a;dsimp only;split at a<;>simp_all;exact⟨m_ a.1,N5 _ _ _ _ a.2⟩
def agR(w:World)(a:A)(v:Value)(G:Fp):Prop:=∃b c vs,a=.val b (c.map .d)/\gK w c vs G/\(b=I->v=.agg vs.toArray)/\(b=J->vs=[v])
def vh(w:World):M A->M Value->Fp->Prop
 |[],vs,G=>vs=[]/\G=[]
 |a::as,vs,G=>∃v b c G2,vs=v::b/\G=c++G2/\agR w a v c/\vh w as b G2
def U7{w:World}:vh w [] [] []:=⟨rfl,rfl⟩
def Qp{w:World}{a:A}{v:Value}{as:M A}{vs:M Value}{b G2:Fp}(h:agR w a v b)(c:vh w as vs G2):vh w (a::as) (v::vs) (b++G2):=⟨v,vs,b,G2,rfl,rfl,h,c⟩
def YS{w:World}{a:M D}{vs:M Value}{G:Fp}(h:gK w a vs G):agR w (.val I (a.map .d)) (.agg vs.toArray) G:=⟨I,a,vs,rfl,h,λ_=>rfl,(λh=>by cases h)⟩
def Rq:Fp->Nat
 |[]=>0
 |be::G=>be.2+Rq G
theorem Uc:∀{G:Fp} {a:Nat×Nat},a∈G->a.2<=Rq G
 |b::G,a,h=>by rcases aU.1 h with rfl|h;{simp only[Rq];omega};have:=Uc h;simp only[Rq];omega
def hOf(n m:Nat)(g:Nat):Nat:=if g<n then m else 0
theorem UK{w:World}{h:Nat->Nat}:∀{c:M D} {vs:M Value} {G:Fp},gK w c vs G->dW h G->jN h w (c.map .d) vs []
 |[],vs,G,a,_=>by simp only[gK]at a;simp[jN,a.1]
 |d::c,vs,G,a,f=>by simp only[gK]at a;obtain⟨v,j,k,l,rfl,rfl,i,g⟩:=a;simp only[bz,jN];exact⟨v,j,[],[],rfl,rfl,⟨rfl,k,i,λe b=>f e (by simp[b])⟩,UK g (λe b=>f e (by simp[b]))⟩
theorem YT{w:World}{h:Nat->Nat}:∀{as:M A} {vs:M Value} {G:Fp},vh w as vs G->dW h G->ly h w as vs []
 |[],vs,G,b,_=>by simp only[vh]at b;simp[ly,b.1]
 |a::as,vs,G,b,e=>by simp only[vh]at b;obtain⟨v,l,p,o,rfl,rfl,⟨n,m,f,rfl,k,j,i⟩,g⟩:=b;simp only[ly];exact⟨v,l,[],[],rfl,rfl,⟨f,UK k (λd c=>e d (by simp[c])),j,i⟩,YT g (λd c=>e d (by simp[c]))⟩
theorem Nb{w:World}:∀{as:M A} {vs:M Value} {G:Fp},vh w as vs G->∀d∈G,d.1<w.heap.size
 |[],vs,G,c,d,b=>by simp only[vh]at c;rw[c.2]at b;simp at b
 |a::as,vs,G,c,d,b=>by simp only[vh]at c;obtain⟨v,i,l,k,rfl,rfl,⟨j,g,h,rfl,f,_⟩,e⟩:=c;rcases aX.1 b with b|b;{exact gK.lt g f d b};exact Nb e d b
end
end Go.Proofs.YtbnmicpicjmgiaaGreatDoor
