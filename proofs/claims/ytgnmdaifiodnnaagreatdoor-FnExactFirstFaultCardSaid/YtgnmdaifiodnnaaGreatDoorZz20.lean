/- Part of the proof. Condition: none. -/
import Derived.ProofKit
import Derived.OpenShut
import Derived.Below
import Derived.Test.YtgnmdaifiodnnaaGreatDoorZz02
set_option linter.all false
open Bool renaming and_eq_true->aw,true->I,false->J
open List renaming cons_append->ax,mem_cons->aU,mem_append->aZ,map_cons->bc,getElem?_eq_some_iff->br,all_eq_true->bG,take_append_drop->ck,all_cons->cK,drop_of_length_le->cX,getElem?_append_left->eH,getElem?_append_right->jM,getElem?_eq_getElem->kG,drop_drop->zo
open Nat renaming le_refl->aI,succ_mul->ov
open Option renaming some->Z,none->O
open Decidable renaming decide->Z'
namespace Go.Proofs.YtgnmdaifiodnnaaGreatDoor
section
open Go.RowKit Go.ChangeShapes Go.WideShapes
inductive KTD where
 |int
 |bool
 |str
 |byte
 |list (e s:Nat)
 |agg (ts:List Nat)
def kty:Nat->KTD
 |0=>.int
 |1=>.bool
 |2=>.str
 |3=>.list 2 0
 |4=>.agg [2,3,0,1]
 |5=>.list 4 1
 |6=>.agg [2,2,7]
 |7=>.list 6 2
 |8=>.agg [0,2,2,9]
 |9=>.list 8 3
 |10=>.agg [0,0,9]
 |11=>.list 10 4
 |12=>.agg [7,11]
 |13=>.agg [0,0]
 |14=>.list 13 6
 |15=>.agg [0,14,3,2,2]
 |16=>.agg [2,2]
 |17=>.list 16 8
 |18=>.agg [2,17]
 |19=>.list 18 9
 |20=>.agg [1,0,19]
 |21=>.agg [0,0,2,20,22]
 |22=>.list 21 11
 |23=>.agg [0,2,15,3,3,2,1,1,1,1,0,0,22,22,24]
 |24=>.list 23 12
 |25=>.agg [7,0,0]
 |26=>.list 25 13
 |27=>.agg [1,0,0,2,7]
 |28=>.agg [24,7,7,0,26,27]
 |29=>.byte
 |30=>.list 29 16
 |31=>.list 0 17
 |32=>.agg [0,3,31]
 |33=>.list 32 18
 |_=>.int
def qG:Nat->M Ty
 |0=>[.int]
 |1=>[.bool]
 |2=>[.str]
 |3=>[.list 0]
 |4=>[.str,.list 0,.int,.bool]
 |5=>[.list 1]
 |6=>[.str,.str,.list 2]
 |7=>[.list 2]
 |8=>[.int,.str,.str,.list 3]
 |9=>[.list 3]
 |10=>[.int,.int,.list 3]
 |11=>[.list 4]
 |12=>[.list 2,.list 4]
 |13=>[.int,.int]
 |14=>[.list 6]
 |15=>[.int,.list 6,.list 0,.str,.str]
 |16=>[.str,.str]
 |17=>[.list 8]
 |18=>[.str,.list 8]
 |19=>[.list 9]
 |20=>[.bool,.int,.list 9]
 |21=>[.int,.int,.str,.bool,.int,.list 9,.list 11]
 |22=>[.list 11]
 |23=>[.int,.str,.int,.list 6,.list 0,.str,.str,.list 0,.list 0,.str,.bool,.bool,.bool,.bool,.int,.int,.list 11,.list 11,.list 12]
 |24=>[.list 12]
 |25=>[.list 2,.int,.int]
 |26=>[.list 13]
 |27=>[.bool,.int,.int,.str,.list 2]
 |28=>[.list 12,.list 2,.list 2,.int,.list 13,.bool,.int,.int,.str,.list 2]
 |29=>[.byte]
 |30=>[.list 16]
 |31=>[.list 17]
 |32=>[.int,.list 0,.list 17]
 |33=>[.list 18]
 |_=>[.int]
def NV:M Nat->M Ty
 |[]=>[]
 |t::a=>qG t++NV a
def xQ(P:Program)(R:TypeId->Nat->Prop):M Field->M Nat->Nat->Nat->Prop
 |[],[],off,all=>off=all
 |f::fs,t::a,off,all=>f.offset=off/\R f.type t/\xQ P R fs a (off+P.cellsOf f.type) all
 |_,_,_,_=>False
def Yj(P:Program)(R:TypeId->Nat->Prop):Prop:=
 ∀t a,R t a->match kty a with
  | .int=>P.underlying t=Z (.int .i64)/\qG a=[.int]
  | .bool=>P.underlying t=Z .bool/\qG a=[.bool]
  | .str=>P.underlying t=Z .string/\qG a=[.str]
  | .byte=>P.underlying t=Z (.int .u8)/\qG a=[.byte]
  | .list e s=>∃b,P.underlying t=Z (.slice b)/\R b e/\qG a=[.list s]/\lay s=qG e/\0<P.cellsOf b/\kw s=P.cellsOf b
  | .agg c=>∃fs,P.underlying t=Z (.struct fs)/\qG a=NV c/\xQ P R fs.toList c 0 (P.cellsOf t)
theorem gE.append{B:Nat}:∀{b a:M Ty} {c es:M D},gE B b c->gE B a es->gE B (b++a) (c++es)
 |[],_,[],_,_,h=>h
 |t::b,a,d::c,es,h,e=>by simp only[gE]at h;simp only[ax,gE];exact⟨h.1,gE.append h.2 e⟩
 |[],_,_::_,_,h,_|_::_,_,[],_,h,_=>by simp only[gE]at h
theorem gE.flat{B:Nat}:∀{b:M Ty} {e:M D},gE B b e->b.all Ty.plain=I->∀x∈e,D.plain x=I
 |[],[],_,_,x,a=>by simp at a
 |t::b,d::e,h,c,x,a=>by simp only[gE]at h;simp only[cK,aw]at c;rcases aU.1 a with rfl|a;{cases t with|int=>{obtain⟨n,rfl,_⟩:=h.1.mK;rfl}|bool=>{obtain⟨n,rfl⟩:=h.1.pN;rfl}|str=>{obtain⟨n,rfl,_⟩:=h.1.lx;rfl}|byte=>{obtain⟨n,rfl,_⟩:=h.1.YM;rfl}|list s=>simp[Ty.plain]at c};exact gE.flat h.2 c.2 x a
 |[],_::_,h,_,_,_|_::_,[],h,_,_,_=>by simp only[gE]at h
theorem IJ{w:World}{s k b:Nat}:∀(len o:Nat),(∀i,i<len->∃e c F,gE maxLen (lay s) e/\fR w e c F/\jZ w b (o+i * k) c/\c.length=k)->
  ∃es d G,es.length=len/\gY maxLen s es/\g_ w es d G/\jZ w b o d
 |0,o,_=>⟨[],[],[],rfl,by simp[gY],by simp[g_],λj a h=>by simp at h⟩
 |len+1,o,h=>by obtain⟨e,c,F,m,l,g,n⟩:=h 0 (by omega);obtain⟨es,d,G,a1,a2,a3,a4⟩:=IJ len (o+k) (λi q=>by obtain⟨e,c,F,m,l,g,n⟩:=h (i+1) (by omega);refine⟨e,c,F,m,l,?_,n⟩;rw[show o+k+i * k=o+(i+1) * k from by rw[ov];omega];exact g);refine⟨e::es,c++d,F++G,by simp[a1],⟨m,a2⟩,?_,?_⟩;{simp only[g_];exact⟨c,d,F,G,rfl,rfl,l,a3⟩};intro j a f;by_cases p:j<c.length;{rw[eH p]at f;have:=g j a f;simpa using this};rw[jM (by omega)]at f;have:=a4 (j - c.length) a f;rw[show o+k+(j - c.length)=o+j by omega]at this;exact this
def acL{n:Int}(h:0<=n/\n<=255):IntKind.u8.wrap n=n:=by simp only[IntKind.wrap,IntKind.bits,IntKind.signed];simp;omega
section
variable {H:Type} {enc:TypeId×Value->H} {P:Program} {w:World} {spare:Nat->Bool} {held:Bool} {R:TypeId->Nat->Prop}
theorem IK{n c:Nat}{a:M Value}(l:∀t k a x,DataW.trod enc P w 0 spare held n t a=Z x->R t k->∃b F,gE maxLen (qG k) b/\fR w b a F)(q:a.length=c) :
  ∀(fs:M Field) (d:M Nat) (off:Nat),xQ P R fs d off c->(∀f∈fs,∃x,DataW.trod enc P w 0 spare held n f.type ((a.drop f.offset).take (P.cellsOf f.type))=Z x)->
   ∃b F,gE maxLen (NV d) b/\fR w b (a.drop off) F
 |[],[],off,h,_=>by simp only[xQ]at h;refine⟨[],[],by simp[NV,gE],?_⟩;rw[cX (by omega)];simp[fR]
 |[],_::_,off,h,_=>by simp only[xQ]at h
 |_::_,[],off,h,_=>by simp only[xQ]at h
 |f::fs,t::d,off,h,m=>by simp only[xQ]at h;obtain⟨rfl,v,s⟩:=h;obtain⟨x,j⟩:=m f (by simp);obtain⟨b,F,ok,p⟩:=l _ t _ x j v;obtain⟨o,G,i,y⟩:=IK l q fs d _ s (λg r=>m g (by simp[r]));refine⟨b++o,F++G,gE.append ok i,?_⟩;have e:a.drop f.offset=(a.drop f.offset).take (P.cellsOf f.type)++a.drop (f.offset+P.cellsOf f.type):=by{rw[<- zo,ck]};rw[e];exact fR.append b p y
theorem Rx{a:Addr}{v:Value}(h:w.cell? a=Z v):a=⟨a.block,a.off,O⟩:=by obtain⟨b,o,c⟩:=a;cases c with|none=>{rfl}|some k=>unfold World.cell? at h;split at h;{simp at h};cases h
theorem JL(hR:Yj P R):∀(fuel:Nat) (t:TypeId) (o:Nat) (m:M Value) (x:DataW H×M MemPlace),DataW.trod enc P w 0 spare held fuel t m=Z x->R t o->∃l F,gE maxLen (qG o) l/\fR w l m F
 |0,t,o,m,x,h,_=>by simp[DataW.trod]at h
 |fuel+1,t,o,m,x,h,W=>by (have Dr:∀{d:D} {v:Value},Rp w d v []->fR w [d] [v] []:=λh=>by simp only[fR];exact⟨_,[],[],[],rfl,rfl,h,rfl,rfl⟩);have g:=hR t o W;cases A:kty o with|int=>{rw[A]at g;obtain⟨n,rfl,_,S⟩:=DataW.trod_int g.1 h;have hb:=bounds_i64 S;refine⟨[.int .i64 n],[],?_,Dr ?_⟩;{rw[g.2];simp only[gE,Ok,and_true,true_and];omega};simp only[Rp,true_and];exact iI (by omega)}|bool=>{rw[A]at g;obtain⟨b,rfl,_⟩:=DataW.trod_bool g.1 h;refine⟨[.bool b],[],?_,Dr ?_⟩;{rw[g.2];simp only[gE,Ok,and_true]};simp only[Rp,true_and]}|str=>{rw[A]at g;obtain⟨s,rfl,_,X⟩:=DataW.trod_string g.1 h;(have Fj:s.size<=maxLen:=by simpa [maxLen] using X);refine⟨[.str s],[],?_,Dr ?_⟩;{rw[g.2];simp only[gE,Ok,and_true];exact Fj};simp only[Rp,true_and];exact Fj}|byte=>{rw[A]at g;obtain⟨n,rfl,_,S⟩:=DataW.trod_int g.1 h;have hb:0<=n/\n<=255:=by{simp only[Lit.wf,aw,decide_eq_true_eq]at S;exact S};refine⟨[.int .u8 n],[],?_,Dr ?_⟩;{rw[g.2];simp only[gE,Ok,and_true,true_and];omega};simp only[Rp,true_and];exact acL (by omega)}|agg ts=>{rw[A]at g;obtain⟨fs,hU,U,hF⟩:=g;obtain⟨xs,n,hn,_,X,VE,hf⟩:=DataW.trod_struct hU h;(have p:n=fuel:=by omega);subst p;obtain⟨l,F,ok,rU⟩:=IK (λt o m x h W=>JL hR n t o m x h W) X fs.toList ts 0 hF (λf Y=>by obtain⟨i,K,e⟩:=List.getElem_of_mem Y;(have CY:i<fs.size:=by simpa using K);have r:=hf i f (by rw[<- e];simp[CY]);rw[kG (by omega)]at r;exact⟨_,r⟩);exact⟨l,F,by rw[U];exact ok,by simpa using rU⟩}|list e s=>rw[A]at g;obtain⟨y,hU,hRe,U,apN,K3,hkw⟩:=g;have out:∀{v:Value} {es:M (M D)} {F:Fp},es.length<=maxLen->gY maxLen s es->Rp w (.list (kw s) (flT s) es) v F->∃l F,gE maxLen (qG o) l/\fR w l [v] F:=by{intro v es F r T h3;refine⟨[.list (kw s) (flT s) es],F,?_,?_⟩;{rw[U];simp only[gE,Ok,and_true,true_and];exact⟨r,T⟩};simp only[fR];exact⟨v,[],F,[],rfl,by simp,h3,rfl,rfl⟩};rcases DataW.trod_slice hU h with ⟨rfl,_⟩|⟨a,len,L,elems,rest,n,hn,rfl,_,_,C,hcm,HO,apJ,_⟩;{refine out (es:=[]) (F:=[]) (by simp) (by simp[gY]) ?_;simp only[Rp];exact⟨O,0,0,rfl,rfl,aI _,by simp[maxLen],λ_=>kR,by omega,by simp,.inl (by simp)⟩};(have p:n=fuel:=by omega);subst p;(have N:L<=maxLen:=by simpa [maxLen] using hcm);have B:∀i,i<len->∃l m F,gE maxLen (lay s) l/\fR w l m F/\m.length=P.cellsOf y/\∀j,j<P.cellsOf y->w.cell? ((a.add (i * P.cellsOf y)).add j)=m[j]?:=by{intro i K;have r:=apJ i K;rw[kG (by omega)]at r;obtain⟨kh,hc,ht⟩:=Option.bind_eq_some_iff.1 r;obtain⟨_,Q,Jc⟩:=World.cells?_some hc;obtain⟨l,F,ok,VA⟩:=JL hR n y e kh _ ht hRe;exact⟨l,kh,F,by rw[apN];exact ok,VA,Q,Jc⟩};by_cases h0:len=0;{subst h0;refine out (es:=[]) (F:=[]) (by simp) (by simp[gY]) ?_;simp only[Rp];exact⟨_,_,_,rfl,rfl,C,N,λ_=>kR,by omega,by simp,.inl (by simp)⟩};obtain⟨_,cs0,F0,_,_,KZ,apz⟩:=B 0 (by omega);have q:=apz 0 K3;simp only[Nat.zero_mul]at q;(have e00:(a.add 0).add 0=a:=by simp[Addr.add]);rw[e00,kG (by omega)]at q;have ha:=Rx q;obtain⟨es,xs,G,x1,V,x3,x4⟩:=IJ (w:=w) (s:=s) (k:=P.cellsOf y) (b:=a.block) len a.off (λi K=>by obtain⟨l,m,F,ok,VA,Q,Jc⟩:=B i K;refine⟨l,m,F,ok,VA,λj c hu=>?_,Q⟩;(have hj:j<P.cellsOf y:=by rw[<- Q];exact (br.1 hu).1);have T:=Jc j hj;rw[ha,rK,rK,hu]at T;exact T);refine out (es:=es) (F:=(a.block,a.off+len * kw s)::G) (by omega) V ?_;simp only[Rp];refine⟨Z a,len,L,rfl,x1.symm,C,N,λhf e he=>(V.mem e he).flat hf,by omega,λe he=>(V.mem e he).length,.inr ⟨by omega,a.block,a.off,xs,G,congrArg Z ha,rfl,x3,x4⟩⟩
end
def EZ(P:Program)(rel:M (TypeId×Nat)):M Field->M Nat->Nat->Nat->Bool
 |[],[],off,all=>off ==all
 |f::fs,t::a,off,all=>f.offset ==off && rel.contains (f.type,t) && EZ P rel fs a (off+P.cellsOf f.type) all
 |_,_,_,_=>J
def Ty.same:Ty->Ty->Bool
 | .int,.int=>I
 | .bool,.bool=>I
 | .str,.str=>I
 | .byte,.byte=>I
 | .list a,.list b=>a ==b
 |_,_=>J
def so:M Ty->M Ty->Bool
 |[],[]=>I
 |a::as,b::c=>a.same b && so as c
 |_,_=>J
theorem Ty.aeM:∀{a b:Ty},a.same b=I->a=b
 | .int,.int,_=>rfl
 | .bool,.bool,_=>rfl
 | .str,.str,_=>rfl
 | .byte,.byte,_=>rfl
 | .list a,.list b,h=>by simp only[Ty.same,beq_iff_eq]at h;rw[h]
 | .int,.bool,h | .int,.str,h | .int,.list _,h | .bool,.int,h | .bool,.str,h | .bool,.list _,h | .str,.int,h | .str,.bool,h | .str,.list _,h | .list _,.int,h | .list _,.bool,h | .list _,.str,h | .byte,.int,h | .byte,.bool,h | .byte,.str,h | .byte,.list _,h | .int,.byte,h | .bool,.byte,h | .str,.byte,h | .list _,.byte,h=>by cases h
theorem nq:∀{a b:M Ty},so a b=I->a=b
 |[],[],_=>rfl
 |a::as,b::c,h=>by simp only[so,aw]at h;rw[Ty.aeM h.1,nq h.2]
 |[],_::_,h|_::_,[],h=>by cases h
def Rs(P:Program)(rel:M (TypeId×Nat)):Bool:=
 rel.all λx=>match P.underlying x.1,kty x.2 with
  |some (.int .i64),.int=>so (qG x.2) [.int]
  |some .bool,.bool=>so (qG x.2) [.bool]
  |some .string,.str=>so (qG x.2) [.str]
  |some (.int .u8),.byte=>so (qG x.2) [.byte]
  |some (.slice a),.list e s=>rel.contains (a,e) && so (qG x.2) [.list s] && so (lay s) (qG e) && Z' (0<P.cellsOf a) && Z' (kw s=P.cellsOf a)
  |some (.struct fs),.agg b=>so (qG x.2) (NV b) && EZ P rel fs.toList b 0 (P.cellsOf x.1)
  |_,_=>J
theorem NU{P:Program}{rel:M (TypeId×Nat)}:∀(fs:M Field) (b:M Nat) (off a:Nat),EZ P rel fs b off a=I->xQ P (λt c=>(t,c)∈rel) fs b off a
 |[],[],off,a,h=>by simpa [EZ,xQ] using h
 |[],_::_,_,_,h=>by simp[EZ]at h
 |_::_,[],_,_,h=>by simp[EZ]at h
 |f::fs,t::b,off,a,h=>by simp only[EZ,aw,beq_iff_eq,List.contains_iff_mem]at h;simp only[xQ];exact⟨h.1.1,h.1.2,NU fs b _ a h.2⟩
theorem Ea{P:Program}{rel:M (TypeId×Nat)}(h:Rs P rel=I):Yj P (λt c=>(t,c)∈rel):=by intro t c g;have a:=bG.1 h (t,c) g;dsimp only at a;cases f:P.underlying t with|none=>{rw[f]at a;cases b:kty c<;>rw[b]at a<;>simp at a}|some d=>rw[f]at a;cases b:kty c with|int=>{rw[b]at a;dsimp only;split at a<;>simp_all;exact nq a}|bool=>{rw[b]at a;dsimp only;split at a<;>simp_all;exact nq a}|str=>{rw[b]at a;dsimp only;split at a<;>simp_all;exact nq a}|byte=>{rw[b]at a;dsimp only;split at a<;>simp_all;exact nq a}|list e s=>{rw[b]at a;dsimp only;split at a<;>simp_all;exact⟨nq a.1.1.1.2,nq a.1.1.2⟩}|agg i=>rw[b]at a;dsimp only;split at a<;>simp_all;exact⟨nq a.1,NU _ _ _ _ a.2⟩
def agc(w:World)(a:A)(v:Value)(G:Fp):Prop:=∃b c vs,a=.val b (c.map .d)/\fR w c vs G/\(b=I->v=.agg vs.toArray)/\(b=J->vs=[v])
def vn(w:World):M A->M Value->Fp->Prop
 |[],vs,G=>vs=[]/\G=[]
 |a::as,vs,G=>∃v b c G2,vs=v::b/\G=c++G2/\agc w a v c/\vn w as b G2
def IE{w:World}:vn w [] [] []:=⟨rfl,rfl⟩
def tI{w:World}{a:A}{v:Value}{as:M A}{vs:M Value}{b G2:Fp}(h:agc w a v b)(c:vn w as vs G2):vn w (a::as) (v::vs) (b++G2):=⟨v,vs,b,G2,rfl,rfl,h,c⟩
def zH{w:World}{d:D}{v:Value}{G:Fp}(h:fR w [d] [v] G):agc w (.val J [.d d]) v G:=⟨J,[d],[v],rfl,h,(λh=>by cases h),λ_=>rfl⟩
def Q8:Fp->Nat
 |[]=>0
 |be::G=>be.2+Q8 G
theorem TN:∀{G:Fp} {a:Nat×Nat},a∈G->a.2<=Q8 G
 |b::G,a,h=>by rcases aU.1 h with rfl|h;{simp only[Q8];omega};have:=TN h;simp only[Q8];omega
def hOf(n m:Nat)(g:Nat):Nat:=if g<n then m else 0
theorem Uq{w:World}{h:Nat->Nat}:∀{c:M D} {vs:M Value} {G:Fp},fR w c vs G->dY h G->iE h w (c.map .d) vs []
 |[],vs,G,a,_=>by simp only[fR]at a;simp[iE,a.1]
 |d::c,vs,G,a,f=>by simp only[fR]at a;obtain⟨v,j,k,l,rfl,rfl,i,g⟩:=a;simp only[bc,iE];exact⟨v,j,[],[],rfl,rfl,⟨rfl,k,i,λe b=>f e (by simp[b])⟩,Uq g (λe b=>f e (by simp[b]))⟩
theorem Yv{w:World}{h:Nat->Nat}:∀{as:M A} {vs:M Value} {G:Fp},vn w as vs G->dY h G->kg h w as vs []
 |[],vs,G,b,_=>by simp only[vn]at b;simp[kg,b.1]
 |a::as,vs,G,b,e=>by simp only[vn]at b;obtain⟨v,l,p,o,rfl,rfl,⟨n,m,f,rfl,k,j,i⟩,g⟩:=b;simp only[kg];exact⟨v,l,[],[],rfl,rfl,⟨f,Uq k (λd c=>e d (by simp[c])),j,i⟩,Yv g (λd c=>e d (by simp[c]))⟩
theorem M4{w:World}:∀{as:M A} {vs:M Value} {G:Fp},vn w as vs G->∀d∈G,d.1<w.heap.size
 |[],vs,G,c,d,b=>by simp only[vn]at c;rw[c.2]at b;simp at b
 |a::as,vs,G,c,d,b=>by simp only[vn]at c;obtain⟨v,i,l,k,rfl,rfl,⟨j,g,h,rfl,f,_⟩,e⟩:=c;rcases aZ.1 b with b|b;{exact fR.lt g f d b};exact M4 e d b
end
end Go.Proofs.YtgnmdaifiodnnaaGreatDoor
