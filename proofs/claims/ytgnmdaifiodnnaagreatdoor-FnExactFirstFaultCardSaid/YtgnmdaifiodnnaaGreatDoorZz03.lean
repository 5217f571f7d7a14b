/- Part of the proof. Condition: none. -/
import Derived.Test.YtgnmdaifiodnnaaGreatDoorZz02
set_option linter.all false
open Bool renaming and_eq_true->aw,false_eq_true->aL,not_eq_true'->cx,or_eq_true->dE,false_and->dH,eq_false_iff->dS,and_false->eo,and_true->fF,and_assoc->iV,and_self->kF,true->I,false->J
open Int renaming toNat_natCast->cn,reduceEq->rG
open List renaming length_map->aj,nil_append->av,cons_append->ax,length_append->az,append_nil->aH,length_nil->aK,length_cons->aN,mem_cons->aU,mem_append->aZ,map_cons->bc,append_assoc->bh,length_take->bo,sizeOf_lt_of_mem->bD,all_eq_true->bG,mem_singleton->bO,take_append_drop->ck,map_append->cC,range->cH,all_cons->cK,nodup_cons->cU,mem_cons_of_mem->dO,mem_cons_self->dV,flatMap_cons->eJ,any_eq_true->fG,mem_filter->gF,length_drop->jK,take_left->oc
open Nat renaming zero_add->bF,zero_le->bK,reduceEqDiff->cm,add_zero->dG,reduceAdd->eh,blt->eP,add_assoc->gC,beq->gI,blt_eq->jO,ble->jX
open Option renaming map_eq_some_iff->ay,map_some->aX,isSome_iff_exists->cB,getD_some->cJ,bind_some->dR,some->Z,none->O
open Option.some renaming injEq->ao
open Prod.mk renaming injEq->aP
open SizeOf renaming sizeOf->aF
open Decidable renaming decide->Z'
namespace Go.Proofs.YtgnmdaifiodnnaaGreatDoor
inductive zw where
 |d
 |row (k:Nat) (fl deep app fz:Bool)
 deriving DecidableEq
inductive SA where
 |val (ag:Bool) (l:List zw)
 |box (l:List zw)
 deriving DecidableEq
structure kP where
 f:Nat
 args:List SA
 res:List (List SA×List SA)
 deriving DecidableEq
def SA.n:SA->Nat
 | .val _ l=>l.length
 | .box l=>l.length
def SA.l:SA->M zw
 | .val _ l=>l
 | .box l=>l
def EJ:zw->D->u RV
 | .d,x=>Z (.d x)
 | .row k a deep app fz,.list c b es=>if c=k/\b=a then Z (.row ⟨es,k,a,deep,app,fz⟩) else O
 |_,_=>O
def nT:M zw->M D->u (M RV)
 |[],[]=>Z []
 |v::vs,x::xs=>match EJ v x with
  |some r=>(nT vs xs).map (r::·)
  |none=>O
 |_,_=>O
def mA:SA->M D->u A
 | .val a l,xs=>(nT l xs).map (.val a)
 | .box l,xs=>(nT l xs).map .box
def gU:M SA->M D->u (M A)
 |[],[]=>Z []
 |[],_::_=>O
 |a::as,xs=>match mA a (xs.take a.n) with
  |some r=>(gU as (xs.drop a.n)).map (r::·)
  |none=>O
def xB:M SA->Nat
 |[]=>0
 |a::as=>a.n+xB as
def u6(v:M SA×M SA)(a:M D):u (M A×M A):=
 match gU v.1 (a.take (xB v.1)),gU v.2 (a.drop (xB v.1)) with
 |some rs,Z outs=>Z (rs,outs)
 |_,_=>O
def YP(a:Cf)(g:Nat):M A->u (M A×M A):=match eP g 100000 with
 |true=>a g
 |false=>yh (gI (g % 2) 1) (a ((g - 100000) / 2))
def UU(a:Bool)(f:Nat):Nat:=100000+(2 * f+if a=I then 1 else 0)
def Ew{a:Cf}{g:Nat}(h:g<100000):YP a g=a g:=by unfold YP;rw[show eP g 100000=I by rw[jO];exact h]
def DK{b:Cf}(a:Bool)(f:Nat):YP b (UU a f)=yh a (b f):=by unfold YP UU;rw[show eP (100000+(2 * f+if a=I then 1 else 0)) 100000=J by rw[dS,ne_eq,jO];omega];cases a;{rw[show (100000+(2 * f+if J=I then 1 else 0) - 100000) / 2=f by simp;try omega,show (100000+(2 * f+if J=I then 1 else 0)) % 2=0 by simp;try omega];rfl};rw[show (100000+(2 * f+if I=I then 1 else 0) - 100000) / 2=f by simp;try omega,show (100000+(2 * f+if I=I then 1 else 0)) % 2=1 by simp;try omega];rfl
def Gok(e:Cf)(d:M (Nat×kP))(G:Gf):Prop:=
 ∀i a,look d i=Z a->∀b j c,G i b=Z (j,c)->∃as r v,gU a.args b=Z as/\nth a.res j=Z v/\u6 v c=Z r/\YP e a.f as=Z r
def rdS(S:SS):SB->u SE
 | .d e=>Z e
 | .nil k a=>Z (.k (.nil k a))
 | .ref r=>(look S.rw r).map (·.e)
 | .any=>O
def wrS(S:SS):SB->u (zw×SE)
 | .d e=>Z (.d,e)
 | .nil k a=>Z (.row k a I I J,.k (.nil k a))
 | .ref r=>(look S.rw r).map λx=>(.row x.k x.fl x.deep x.app x.fz,x.e)
 | .any=>O
def SC.isAgg:SC->Bool
 | .agg _=>I
 |_=>J
def aeT(S:SS):SC->u (SA×M SE)
 | .ptr b 0=>match look S.bx b with
  |some a=>(gN (wrS S) a).map λl=>(.box (l.map (·.1)),l.map (·.2))
  |none=>O
 |c=>match c.cells with
  |some a=>(gN (rdS S) a).map λl=>(.val c.isAgg (l.map λ_=>.d),l)
  |none=>O
def Hn(S:SS):M SC->u (M SA×M SE)
 |[]=>Z ([],[])
 |c::cs=>match aeT S c with
  |some (a,es)=>(Hn S cs).map λp=>(a::p.1,es++p.2)
  |none=>O
def gH:M SB->M Nat
 |[]=>[]
 | .ref r::cs=>r::gH cs
 |_::cs=>gH cs
def uv(S:SS):SC->M Nat
 | .ptr b 0=>gH ((look S.bx b).getD [])
 |_=>[]
def uu(S:SS):M SC->M Nat
 |[]=>[]
 |c::cs=>uv S c++uu S cs
def Ao:M SC->M Nat
 |[]=>[]
 |c::cs=>gH (c.cells.getD [])++Ao cs
def rN:M SC->M Nat
 |[]=>[]
 | .ptr b _::cs=>b::rN cs
 |_::cs=>rN cs
section
variable {ρ:M D} {S:SS} {s:St}
theorem aiZ(h:Rel ρ S s){x:SB}{v:C}{e:SE}(a:lb ρ x v)(b:rdS S x=Z e):∃y,e.d ρ=Z y/\mY s v=Z (.d y):=by cases x with|d j=>{cases b;obtain⟨y,c,rfl⟩:=a;exact⟨y,c,rfl⟩}|nil k i=>{cases b;simp only[lb]at a;subst a;exact⟨_,rfl,rfl⟩}|ref r=>{simp only[lb]at a;subst a;obtain⟨x,c,rfl⟩:=ay.1 b;obtain⟨y,g,es,f,rfl⟩:=h.rw r x c;exact⟨_,f,by simp only[mY,g,aX]⟩}|any=>cases b
theorem ajH(h:Rel ρ S s){x:SB}{v:C}{p:zw×SE}(a:lb ρ x v)(b:wrS S x=Z p):∃y r,p.2.d ρ=Z y/\j_ s v=Z r/\EJ p.1 y=Z r:=by cases x with|d i=>{cases b;obtain⟨y,c,rfl⟩:=a;exact⟨y,_,c,rfl,rfl⟩}|nil k g=>{cases b;simp only[lb]at a;subst a;exact⟨_,_,rfl,rfl,by simp[SK.d,EJ]⟩}|ref r=>{simp only[lb]at a;subst a;obtain⟨x,c,rfl⟩:=ay.1 b;obtain⟨y,f,es,e,rfl⟩:=h.rw r x c;exact⟨_,.row ⟨es,x.k,x.fl,x.deep,x.app,x.fz⟩,e,by simp only[j_,f,aX],by simp[EJ]⟩}|any=>cases b
theorem Ue(h:Rel ρ S s):∀{f:M SB} {vs:M C} {es:M SE},eR ρ f vs->gN (rdS S) f=Z es->∃ys b,jk ρ es=Z ys/\gN (mY s) vs=Z b/\nT (es.map λ_=>.d) ys=Z b
 |[],vs,_,c,a=>by cases a;simp only[eR]at c;subst c;exact⟨[],[],rfl,rfl,rfl⟩
 |x::f,_,es,⟨v,vs,c,p,o⟩,a=>by subst c;simp only[gN]at a;split at a;{rename_i e g;obtain⟨q,n,rfl⟩:=ay.1 a;obtain⟨y,m,l⟩:=aiZ h p g;obtain⟨ys,b,k,j,i⟩:=Ue h o n;exact⟨y::ys,.d y::b,by simp only[jk,m,k,aX],by simp only[gN,l,j,aX],by simp only[bc,nT,EJ,i,aX]⟩};cases a
theorem A4(h:Rel ρ S s):∀{d:M SB} {vs:M C} {e:M (zw×SE)},eR ρ d vs->gN (wrS S) d=Z e->∃ys b,jk ρ (e.map (·.2))=Z ys/\gN (j_ s) vs=Z b/\nT (e.map (·.1)) ys=Z b
 |[],vs,_,c,a=>by cases a;simp only[eR]at c;subst c;exact⟨[],[],rfl,rfl,rfl⟩
 |x::d,_,es,⟨v,vs,c,q,o⟩,a=>by subst c;simp only[gN]at a;split at a;{rename_i p f;obtain⟨t,n,rfl⟩:=ay.1 a;obtain⟨y,r,m,l,g⟩:=ajH h q f;obtain⟨ys,b,k,j,i⟩:=A4 h o n;exact⟨y::ys,r::b,by simp only[bc,jk,m,k,aX],by simp only[gN,l,j,aX],by simp only[bc,nT,g,i,aX]⟩};cases a
theorem na:∀{l:M zw} {a:M D} {b:M RV},nT l a=Z b->a.length=l.length
 |[],[],_,_=>rfl
 |[],_::_,_,h=>by cases h
 |_::_,[],_,h=>by cases h
 |v::l,x::a,b,h=>by simp only[nT]at h;split at h;{obtain⟨ys,c,_⟩:=ay.1 h;simp[na c]};cases h
theorem qh{a β:Type}{f:a->u β}{p:a->Bool}(c:∀x y,f x=Z y->p x=I):∀{b:M a} {ys:M β},gN f b=Z ys->b.all p=I
 |[],_,_=>rfl
 |x::b,_,h=>by simp only[gN]at h;split at h;{rename_i y d;obtain⟨ys,e,_⟩:=ay.1 h;simp only[cK,c x y d,qh c e,kF]};cases h
theorem abD{x:SB}{e:SE}(h:rdS S x=Z e):x.cell=I:=by cases x<;>first|rfl|cases h
theorem wF{x:SB}{e:zw×SE}(h:wrS S x=Z e):x.cell=I:=by cases x<;>first|rfl|cases h
theorem mM:∀{c:M SB} {vs:M C},eR ρ c vs->c.all SB.cell=I->rowsOf vs=gH c
 |[],_,h,_=>by simp only[eR]at h;subst h;rfl
 |x::c,_,⟨v,vs,g,b,f⟩,a=>by subst g;simp only[cK,aw]at a;cases x with|d e=>{obtain⟨y,_,rfl⟩:=b;simp only[rowsOf,gH];exact mM f a.2}|nil k i=>{simp only[lb]at b;subst b;simp only[rowsOf,gH];exact mM f a.2}|ref r=>{simp only[lb]at b;subst b;simp only[rowsOf,gH,mM f a.2]}|any=>cases a.1
def Yd(c:SC)(v:C):Prop:=(∃b,c=.ptr b 0/\v=.ptr b 0)\/((∀b o,c≠.ptr b o)/\∀b o,v≠.ptr b o)
theorem aeU(h:Rel ρ S s){c:SC}{v:C}{a:SA}{es:M SE}(q:lf ρ c v)(f:aeT S c=Z (a,es)) :
  ∃g r,jk ρ es=Z g/\RW s v=Z r/\mA a g=Z r/\g.length=a.n/\oH s v=uv S c/\rowsOf v.cells=gH (c.cells.getD [])/\Yd c v:=by
 (have val:∀{i:M SB} {l:M SE},c.cells=Z i->gN (rdS S) i=Z l->a=.val c.isAgg (l.map λ_=>.d)->es=l->(∀b o,c≠.ptr b o)-> ∃g r,jk ρ es=Z g/\RW s v=Z r/\mA a g=Z r/\g.length=a.n/\oH s v=uv S c/\rowsOf v.cells=gH (c.cells.getD [])/\Yd c v:=by{rintro i l e j rfl rfl y;have B:=qh (λ_ _=>abD) j;have H:=q.cells e B;obtain⟨ys,G,m,k,A⟩:=Ue h H j;have t:∀b o,v≠.ptr b o:=by{rintro b o rfl;cases c with|b x=>{cases e;have:=lb.cell q (by simpa using B);cases this}|agg ys=>{obtain⟨L,F,_⟩:=q;cases F}|ptr b o=>{exact y b o rfl}|tw _=>{cases e}|pG _ _ _ _=>{cases e}|vi _ _=>{cases e}|fn _ _=>{cases e}|any=>cases e};have R:v.isAgg=c.isAgg:=by{cases c with|b x=>{cases e;have:=lb.cell q (by simpa using B);cases v<;>first|rfl|cases this}|agg ys=>{obtain⟨L,rfl,_⟩:=q;rfl}|ptr b o=>{exact absurd rfl (y b o)}|tw _=>{cases e}|pG _ _ _ _=>{cases e}|vi _ _=>{cases e}|fn _ _=>{cases e}|any=>cases e};refine⟨ys,.val v.isAgg G,m,?_,by rw[R];simp only[mA,A,aX],by rw[na A];rfl,?_,?_,.inr ⟨y,t⟩⟩;{unfold RW;split;{exact absurd rfl (t _ _)};simp only[k,aX]};{have:oH s v=[]:=by{unfold oH;split;{exact absurd rfl (t _ _)};rfl};rw[this];unfold uv;split;{exact absurd rfl (y _ _)};rfl};rw[e,mM H B];rfl});have box:∀{b:Nat} {i:M SB} {l:M (zw×SE)},c=.ptr b 0->look S.bx b=Z i->gN (wrS S) i=Z l->a=.box (l.map (·.1))->es=l.map (·.2)-> ∃g r,jk ρ es=Z g/\RW s v=Z r/\mA a g=Z r/\g.length=a.n/\oH s v=uv S c/\rowsOf v.cells=gH (c.cells.getD [])/\Yd c v:=by{rintro b i l rfl j m rfl rfl;simp only[lf]at q;subst q;obtain⟨L,A,F⟩:=h.bx b i j;obtain⟨ys,G,Q,P,K⟩:=A4 h F m;refine⟨ys,.box G,Q,by simp only[RW,A,P,aX],by simp only[mA,K,aX],by rw[na K];rfl,?_,rfl,.inl ⟨b,rfl,rfl⟩⟩;have:=mM F (qh (p:=SB.cell) (λ_ _=>wF) m);simp only[oH,uv,A,j,cJ,this]}
 have w:(∀b o,c≠.ptr b o)->(match c.cells with
  |some i=>(gN (rdS S) i).map λl=>(SA.val c.isAgg (l.map λ_=>zw.d),l)
  |none=>O)=Z (a,es)->∃g r,jk ρ es=Z g/\RW s v=Z r/\mA a g=Z r/\g.length=a.n/\oH s v=uv S c/\rowsOf v.cells=gH (c.cells.getD [])/\Yd c v:=by
  intro y f;rcases e:c.cells with _|i
  .rw[e]at f;cases f
  .have N:=f;rw[e]at N;obtain⟨l,m,k⟩:=ay.1 N;simp only[aP]at k;have:=val e m k.1.symm k.2.symm y;rw[e]at this;exact this
 cases c with|ptr b o=>{cases o with|zero=>{rcases j:look S.bx b with _|i;{simp only[aeT,j]at f;cases f};simp only[aeT,j]at f;obtain⟨l,m,k⟩:=ay.1 f;simp only[aP]at k;have:=box rfl j m k.1.symm k.2.symm;exact this}|succ o=>cases f}|b x=>{exact w (λ_ _ h=>by cases h) f}|agg x=>{exact w (λ_ _ h=>by cases h) f}|tw x=>{exact w (λ_ _ h=>by cases h) f}|pG _ _ _ _=>{exact w (λ_ _ h=>by cases h) f}|vi _ _=>{exact w (λ_ _ h=>by cases h) f}|fn _ _=>{exact w (λ_ _ h=>by cases h) f}|any=>exact w (λ_ _ h=>by cases h) f
def Sf:M SC->M C->Prop
 |[],vs=>vs=[]
 |c::cs,vs=>∃v a,vs=v::a/\Yd c v/\Sf cs a
theorem take_left'{c:Type}{a b:M c}{n:Nat}(h:a.length=n):(a++b).take n=a:=by subst h;exact oc
theorem drop_left'{c:Type}{a b:M c}{n:Nat}(h:a.length=n):(a++b).drop n=b:=by subst h;exact List.drop_left
theorem Ho(h:Rel ρ S s):∀{d:M SC} {vs:M C} {as:M SA} {es:M SE},Bf ρ d vs->Hn S d=Z (as,es)->
  ∃f g,jk ρ es=Z f/\wC s vs=Z g/\gU as f=Z g/\dz s vs=uu S d/\il vs=Ao d/\cN vs=rN d/\Sf d vs
 |[],_,_,_,i,e=>by simp only[Bf]at i;subst i;cases e;exact⟨[],[],rfl,rfl,rfl,rfl,rfl,rfl,rfl⟩
 |c::d,_,as,es,⟨v,vs,i,P,N⟩,e=>by subst i;simp only[Hn]at e;split at e;{rename_i a U L;obtain⟨p,K,n⟩:=ay.1 e;obtain⟨V,Q⟩:=p;simp only[aP]at n;obtain⟨rfl,rfl⟩:=n;obtain⟨f,r,H,G,F,m,B,A,l⟩:=aeU h P L;obtain⟨j,g,y,x,w,t,q,k,o⟩:=Ho h N K;refine⟨f++j,r::g,qY H y,by simp only[wC,G,x,aX],?_,by simp only[dz,uu,B,t],by simp only[il,Ao,A,q],?_,v,vs,rfl,l,o⟩;{simp only[gU,take_left' m,drop_left' m,F,w,aX]};rcases l with ⟨b,rfl,rfl⟩|⟨n1,n2⟩;{simp only[cN,rN,k]};have T:rN (c::d)=rN d:=by{cases c<;>first|rfl|exact absurd rfl (n1 _ _)};have R:cN (v::vs)=cN vs:=by{cases v<;>first|rfl|exact absurd rfl (n2 _ _)};rw[T,R,k]};cases e
def Loc(ρ:M D)(c:Nat)(a:M D):Prop:=∀i x,nth a i=Z x->nth ρ (c+i)=Z x
theorem Loc.tail{c:Nat}{x:D}{a:M D}(h:Loc ρ c (x::a)):Loc ρ (c+1) a:=λi y e=>by have:=h (i+1) y e;rw[gC,Nat.add_comm 1 i];exact this
theorem Loc.drop:∀{a:M D} {c:Nat} (n:Nat),Loc ρ c a->Loc ρ (c+n) (a.drop n)
 |a,c,0,h=>h
 |[],c,n+1,h=>λi y e=>by cases e
 |x::a,c,n+1,h=>by have:=Loc.drop n h.tail;rw[gC,Nat.add_comm 1 n]at this;exact this
theorem ON{a:Type}:∀{us:M a} {n i:Nat} {x:a},nth (us.take n) i=Z x->nth us i=Z x
 |[],n,i,x,h=>by simp[nth]at h
 |y::us,0,i,x,h=>by simp[nth]at h
 |y::us,n+1,0,x,h=>h
 |y::us,n+1,i+1,x,h=>ON (us:=us) h
theorem Loc.take{a:M D}{c:Nat}(n:Nat)(h:Loc ρ c a):Loc ρ c (a.take n):=λi x e=>h i x (ON e)
theorem Loc.new(a:M D):Loc (ρ++a) ρ.length a:=by intro i x e;induction ρ with|nil=>{simpa using e}|cons y ρ c=>rw[aN,Nat.add_right_comm];exact c
def Oq(d:Nat):Nat->M zw->Nat->SS->M SB×SS
 |_,[],_,S=>([],S)
 |j,.d::l,c,S=>match Oq d (j+1) l (c+1) S with
  |(xs,a)=>(.d (.v c)::xs,a)
 |j,.row k b deep app fz::l,c,S=>match Oq d (j+1) l (c+1) (S.newRow (vm d j) ⟨.v c,k,b,deep,app,fz⟩) with
  |(xs,a)=>(.ref (vm d j)::xs,a)
theorem yx{d:Nat}:∀{l:M zw} {j c:Nat} {S o:SS} {s:St} {A:M D} {vs:M RV} {m:M SB},Rel ρ S s->nT l A=Z vs->Loc ρ c A->Oq d j l c S=(m,o)->
  ∃i f,er d j vs s=(i,f)/\Rel ρ o f/\eR ρ m i
 |[],j,c,S,o,s,[],vs,m,h,b,n,e=>by cases b;cases e;exact⟨[],s,rfl,h,rfl⟩
 |[],_,_,_,_,_,_::_,_,_,_,b,_,_=>by cases b
 |_::_,_,_,_,_,_,[],_,_,_,b,_,_=>by cases b
 |v::l,j,c,S,o,s,a::A,vs,m,h,b,n,e=>by simp only[nT]at b;split at b;{rename_i r g;obtain⟨N,H,rfl⟩:=ay.1 b;have G:=n 0 a rfl;cases v with|d=>{cases g;simp only[Oq]at e;generalize B:Oq d (j+1) l (c+1) S=q at e;obtain⟨ys,L⟩:=q;cases e;obtain⟨i,f,w,t,p⟩:=yx h H n.tail B;exact⟨.d a::i,f,by simp only[er,w],t,_,_,rfl,⟨a,G,rfl⟩,p⟩}|row k P deep app fz=>cases a with|list F C es=>{simp only[EJ]at g;split at g;{rename_i K;obtain⟨rfl,rfl⟩:=K;cases g;simp only[Oq]at e;generalize B:Oq d (j+1) l (c+1) _=q at e;obtain⟨ys,L⟩:=q;cases e;obtain⟨i,f,w,t,p⟩:=yx (h.newRow (vm d j) (x:=⟨.v c,F,C,deep,app,fz⟩) (y:=⟨es,F,C,deep,app,fz⟩) ⟨es,G,rfl⟩) H n.tail B;exact⟨.ref (vm d j)::i,f,by simp only[er,w],t,_,_,rfl,rfl,p⟩};cases g}|_=>cases g};cases b
def zk:SS->M SC->M SA->Nat->u SS
 |S,[],_,_=>Z S
 |S,.ptr b 0::cs,.box l::outs,c=>match Oq (b+500) 0 l c S with
  |(xs,a)=>zk (a.gA b xs) cs outs (c+l.length)
 |S,.ptr _ _::_,_,_=>O
 |S,_::cs,outs,c=>zk S cs outs c
def aeJ(d:Nat):Nat->M SA->Nat->SS->u (M (SB ⊕ M SB)×SS)
 |_,[],_,S=>Z ([],S)
 |q,.val a l::rs,c,S=>match Oq d (30 * q) l c S with
  |(xs,b)=>match aeJ d (q+1) rs (c+l.length) b with
   |some (ms,S2)=>if a=I then Z (.inr xs::ms,S2) else match xs with
    |[x]=>Z (.inl x::ms,S2)
    |_=>O
   |none=>O
 |_,.box _::_,_,_=>O
theorem iy{a:SA}{as:M SA}{c:M D}{d:M A}(h:gU (a::as) c=Z d):∃r b,mA a (c.take a.n)=Z r/\gU as (c.drop a.n)=Z b/\d=r::b:=by simp only[gU]at h;split at h;{rename_i r e;obtain⟨b,f,rfl⟩:=ay.1 h;exact⟨r,b,e,f,rfl⟩};cases h
theorem Uj{d:Nat}:∀{l:M SA} {q c:Nat} {S k:SS} {s:St} {e:M D} {f:M A} {g:M (SB ⊕ M SB)},Rel ρ S s->gU l e=Z f->Loc ρ c e->aeJ d q l c S=Z (g,k)->
  ∃j t,iL d q f s=(j,t)/\Rel ρ k t/\vp ρ g j
 |[],q,c,S,k,s,e,f,g,h,i,m,b=>by cases e with|nil=>{cases i;cases b;exact⟨[],s,rfl,h,rfl⟩}|cons a e=>cases i
 | .box _::_,_,_,_,_,_,_,_,_,_,_,_,b=>by cases b
 | .val Q l::as,q,c,S,k,s,e,f,g,h,i,m,b=>by obtain⟨r,W,w,L,rfl⟩:=iy i;simp only[mA]at w;obtain⟨vs,K,rfl⟩:=ay.1 w;simp only[aeJ]at b;generalize H:Oq d (30 * q) l c S=p at b;obtain⟨R,V⟩:=p;simp only at b;obtain⟨j,U,y,x,o⟩:=yx h K (m.take _) H;split at b;{rename_i F S2 G;obtain⟨v,C,v1,v2,v3⟩:=Uj x L (m.drop _) G;refine⟨_,C,by simp only[iL,y,v1];rfl,?_⟩;split at b;{rename_i n;cases b;subst n;exact⟨v2,j,v,rfl,o,v3⟩};rename_i n;split at b;{cases b;obtain⟨P,N,rfl,B,T⟩:=o;(have:Q=J:=by simpa using n);subst this;exact⟨v2,P,v,rfl,B,v3⟩};cases b};cases b
theorem CK:∀{e:M SC} {vs:M C} {l:M SA} {c:Nat} {S i:SS} {s:St} {f:M D} {outs:M A},Rel ρ S s->Sf e vs->gU l f=Z outs->Loc ρ c f->zk S e l c=Z i->Rel ρ i (l6 s vs outs)
 |[],vs,l,c,S,i,s,f,outs,h,k,j,g,d=>by simp only[Sf]at k;subst k;cases d;exact h
 |x::e,_,l,c,S,i,s,f,outs,h,⟨v,vs,y,H,n⟩,j,g,d=>by subst y;rcases H with ⟨b,rfl,rfl⟩|⟨n1,n2⟩;{cases l with|nil=>{cases d}|cons a l=>cases a with|val T l=>{cases d}|box w=>obtain⟨r,V,m,G,rfl⟩:=iy j;simp only[mA]at m;obtain⟨P,F,rfl⟩:=ay.1 m;simp only[zk]at d;generalize B:Oq (b+500) 0 w c S=p at d;obtain⟨N,U⟩:=p;simp only at d;obtain⟨R,Q,t,q,o⟩:=yx h F (g.take _) B;simp only[l6,t];exact CK (q.gA b o) n G (g.drop _) d};have L:zk S (x::e) l c=zk S e l c:=by{cases x<;>first|rfl|exact absurd rfl (n1 _ _)};have K:l6 s (v::vs) outs=l6 s vs outs:=by{cases v<;>first|rfl|exact absurd rfl (n2 _ _)};rw[L]at d;rw[K];exact CK h n j g d
def Bq(S:SS):M Nat->SS
 |[]=>S
 |r::rs=>Bq (S.dP r) rs
def yk(S:SS):M Nat->SS
 |[]=>S
 |b::a=>yk {S with bx:=sy S.bx b } a
theorem zU:∀{rs:M Nat} {S:SS} {s:St},Rel ρ S s->Rel ρ (Bq S rs) (iu s rs)
 |[],_,_,h=>h
 |r::rs,_,_,h=>zU (rs:=rs) (h.dP r)
theorem xS:∀{bs:M Nat} {S:SS} {s:St},Rel ρ S s->Rel ρ (yk S bs) (gj s bs)
 |[],_,_,h=>h
 |b::bs,S,s,h=>by refine xS (bs:=bs) (S:={S with bx:=sy S.bx b }) (s:={s with bx:=sy s.bx b }) ⟨h.sl,λe c a=>?_,h.rw⟩;simp only[fO]at a ⊢;split at a;{cases a};rename_i d;rw[if_neg d];exact h.bx e c a
end
def Kj:Nat->M zw->Bool×M SE
 |_,[]=>(I,[])
 |c,.d::l=>match Kj (c+1) l with
  |(b,pl)=>(b,.v c::pl)
 |c,.row _ _ deep _ _::l=>match Kj (c+1) l with
  |(b,pl)=>(deep && b,pl)
def Nd:Nat->M SA->Bool×M SE
 |_,[]=>(I,[])
 |c,a::as=>match Kj c a.l with
  |(b,pl)=>match Nd (c+a.n) as with
   |(e,d)=>(b && e,pl++d)
def Mc:M SA->Bool
 |[]=>I
 | .val _ l::as=>jX l.length 30 && Mc as
 | .box _::_=>J
def aeO(hint:M Nat)(d:Nat)(a:M Nat)(b:Bool)(pl:M SE):Bs×Bool:=
 if a=[] then ([],J) else if b=J then ([],I) else match pl with
  |[]=>([],J)
  |pl=>if hint.contains (1000 * d+pl.length) then ([(.xK,pl)],I) else ([(.pl,pl)],J)
def ahW:M (SB ⊕ M SB)->SC
 |[.inl x]=>.b x
 |[.inr xs]=>.agg xs
 |ms=>.tw ms
def Uc(l:M C):C:=match l with|[c]=>c|l=>.tw l
def Hp(hint:M Nat)(S:SS)(a:M SC)(d:u Nat)(n:Nat)(v:M SA×M SA):u (Bs×SS):=
 if Mc v.1=I then
  match Nd n v.1,Nd (n+xB v.1) v.2 with
  |(e,X5),(c,MP)=>match aeO hint (d.getD 0) (Ao a) (e && c) (X5++MP) with
   |(b,shr)=>match (if shr=I then oY S (Ao a) else Z S) with
    |some g=>match zk (yk (Bq g (uu S a)) (rN a)) a v.2 (n+xB v.1) with
     |some S2=>match aeJ (d.getD 0) 0 v.1 n S2 with
      |some (ms,f)=>Z (b,f.put d ⟨[],ahW ms⟩)
      |none=>O
     |none=>O
    |none=>O
 else O
section
variable {ρ iZ:M D} {S S':SS} {s:St}
theorem DL:∀{l:M zw} {c:Nat} {i:M D} {vs:M RV} {b:Bool} {pl:M SE},nT l i=Z vs->Loc ρ c i->Kj c l=(b,pl)->∃g,jk ρ pl=Z g/\vs.all RV.closed=(b && db g)
 |[],_,[],_,_,_,e,_,f=>by cases e;cases f;exact⟨[],rfl,rfl⟩
 |[],_,_::_,_,_,_,e,_,_=>by cases e
 |_::_,_,[],_,_,_,e,_,_=>by cases e
 |v::l,c,a::i,vs,b,pl,e,n,f=>by simp only[nT]at e;split at e;{rename_i r h;obtain⟨B,t,rfl⟩:=ay.1 e;have x:nth ρ c=Z a:=n 0 a rfl;cases v with|d=>{cases h;simp only[Kj]at f;generalize m:Kj (c+1) l=q at f;obtain⟨w,j⟩:=q;cases f;obtain⟨g,p,o⟩:=DL t n.tail m;refine⟨a::g,by simp only[jk,SE.d,x,p,aX],?_⟩;rw[cK,o,oK];simp only[RV.closed];cases D.plain a<;>cases w<;>simp}|row k C deep app fz=>simp only[Kj]at f;generalize m:Kj (c+1) l=q at f;obtain⟨w,j⟩:=q;cases f;obtain⟨g,p,o⟩:=DL t n.tail m;refine⟨g,p,?_⟩;cases a with|list A y es=>{simp only[EJ]at h;split at h;{cases h;rw[cK,o];simp only[RV.closed,iV]};cases h}|_=>cases h};cases e
theorem Ki:∀{l:M SA} {c:Nat} {h:M D} {i:M A} {b:Bool} {pl:M SE},gU l h=Z i->Loc ρ c h->Nd c l=(b,pl)->∃d,jk ρ pl=Z d/\i.all A.closed=(b && db d)
 |[],_,[],_,_,_,f,_,e=>by cases f;cases e;exact⟨[],rfl,rfl⟩
 |[],_,_::_,_,_,_,f,_,_=>by cases f
 |a::as,c,h,i,b,pl,f,p,e=>by obtain⟨r,K,g,x,rfl⟩:=iy f;simp only[Nd]at e;generalize v:Kj c a.l=q at e;obtain⟨w,X5⟩:=q;simp only at e;generalize o:Nd (c+a.n) as=q at e;obtain⟨G,MP⟩:=q;cases e;obtain⟨m,B,y⟩:=Ki x (p.drop _) o;have:∃d,jk ρ X5=Z d/\A.closed r=(w && db d):=by{cases a with|val H l=>{simp only[mA]at g;obtain⟨vs,t,rfl⟩:=ay.1 g;obtain⟨d,k,j⟩:=DL t (p.take _) v;exact⟨d,k,j⟩}|box l=>simp only[mA]at g;obtain⟨vs,t,rfl⟩:=ay.1 g;obtain⟨d,k,j⟩:=DL t (p.take _) v;exact⟨d,k,j⟩};obtain⟨d,F,C⟩:=this;refine⟨d++m,qY F B,?_⟩;rw[cK,C,y,za];cases w<;>cases G<;>simp
theorem JU:∀{l:M SA} {d:M D} {e:M A},gU l d=Z e->Mc l=I->e.all A.short=I
 |[],[],_,b,_=>by cases b;rfl
 |[],_::_,_,b,_=>by cases b
 | .box _::_,_,_,_,h=>by cases h
 | .val m l::as,d,e,b,h=>by obtain⟨r,o,f,g,rfl⟩:=iy b;simp only[Mc,aw]at h;simp only[mA]at f;obtain⟨vs,a,rfl⟩:=ay.1 f;have k:vs.length=l.length:=by{clear h f b g;generalize d.take (SA.val m l).n=c at a;induction l generalizing c vs with|nil=>{cases c<;>cases a;rfl}|cons v l j=>cases c with|nil=>{cases a}|cons x c=>simp only[nT]at a;split at a;{obtain⟨ys,i,rfl⟩:=ay.1 a;simp[j _ _ i]};cases a};rw[cK,JU g h.2,fF];simp only[A.short,k,h.1]
theorem aeP{hint:M Nat}{d:Nat}{e:M Nat}{b f:Bool}{pl:M SE}{p:Bs}{k r:M D}(a:aeO hint d e b pl=(p,f))(o:lF ρ p=Z (ρ++r))(m:jk ρ pl=Z k)(h:Rel ρ S s){q:SS}(j:(if f=I then oY S e else Z S)=Z q) :
  Rel ρ q (if (b && db k)=I then s else eM s e):=by unfold aeO at a;split at a;{rename_i v;subst v;cases a;cases j;split;{exact h};exact h};split at a;{rename_i n;cases a;subst n;simp only[dH,aL,if_false];exact pJ h j};rename_i l;(have l:b=I:=by simpa using l);subst l;split at a;{cases a;cases m;cases j;exact h};split at a;{cases a;obtain⟨t,x,i,c,w⟩:=fE o;rw[m]at i;cases i;simp only[aS]at c;split at c;{cases c};rename_i g;(have g:db k=J:=by simpa using g);rw[g];simp only[eo,aL,if_false];exact pJ h j};cases a;obtain⟨t,x,i,c,w⟩:=fE o;rw[m]at i;cases i;simp only[aS]at c;split at c;{rename_i g;rw[g];cases j;exact h};cases c
theorem aen{b:M (SB ⊕ M SB)}{f:M C}(h:vp ρ b f):lf ρ (ahW b) (Uc f):=by unfold ahW;split;{obtain⟨c,g,rfl,d,a⟩:=h;simp only[vp]at a;subst a;exact d};{obtain⟨i,g,rfl,d,a⟩:=h;simp only[vp]at a;subst a;exact⟨i,rfl,d⟩};rename_i n1 n2;have:Uc f=.tw f:=by{unfold Uc;split;{rename_i c;cases b with|nil=>{simp only[vp]at h;cases h}|cons m b=>cases m with|inl x=>{obtain⟨c,g,e,d,a⟩:=h;cases e;cases b with|nil=>{exact absurd rfl (n1 x)}|cons m b=>cases m<;>(obtain⟨_,_,e,_⟩:=a;cases e)}|inr x=>obtain⟨c,g,e,d,a⟩:=h;cases e;cases b with|nil=>{exact absurd rfl (n2 x)}|cons m b=>cases m<;>(obtain⟨_,_,e,_⟩:=a;cases e)};rfl};rw[this];exact⟨f,rfl,h⟩
theorem RB{f:Cf}{T:Nat}(h:Rel ρ S s){hint:M Nat}{n:Nat}(hn:n=ρ.length){d:u Nat}{b:M SC}{g:M C}{es:M SE}{N:M SA}(Dm:Bf ρ b g)(ha:Hn S b=Z (N,es))
  (hd:(k8 (uu S b) && k8 (rN b) && (uu S b).all (λr=>!(Ao b).contains r))=I) {K c:M D} (hw:jk ρ es=Z K) {i:M A} {r:M A×M A} {v:M SA×M SA} (L:gU N K=Z i) (j:u6 v c=Z r) (X:f T i=Z r)
  {bs:Bs} (a:Hp hint S b d n v=Z (bs,S')) (R:lF (ρ++c) bs=Z iZ) :
  ∃P,nW f s d T g=Z P/\Rel iZ S' P:=by obtain⟨W,as,Q,q2,q3,q4,q5,q6,q7⟩:=Ho h Dm ha;rw[hw]at Q;cases Q;rw[q3]at L;cases L;obtain⟨rs,outs⟩:=r;unfold u6 at j;split at j;{rename_i G_ p F U;cases j;unfold Hp at a;split at a;{rename_i q;generalize kI:Nd n v.1=p1 at a;generalize pc:Nd (n+xB v.1) v.2=p2 at a;obtain⟨H,X5⟩:=p1;obtain⟨G,MP⟩:=p2;simp only at a;generalize VC:aeO hint (d.getD 0) (Ao b) (H && G) (X5++MP)=p3 at a;obtain⟨bs',shr⟩:=p3;simp only at a;split at a;{rename_i S0 x;split at a;{rename_i S2 w;split at a;{rename_i ms S3 t;cases a;(have k:Loc (ρ++c) n c:=by rw[hn];exact Loc.new c);obtain⟨o,t1,t2⟩:=Ki F (k.take _) kI;obtain⟨m,t3,t4⟩:=Ki U (k.drop _) pc;obtain⟨V,VG⟩:=oL R;subst VG;have e:=aeP VC R (qY t1 t3) (h.mono c) x;have Y:(H && G && db (o++m))=(rs.all A.closed && outs.all A.closed):=by{rw[t2,t4,za];cases H<;>cases G<;>simp};rw[Y]at e;have B:=xS (bs:=rN b) (zU (rs:=uu S b) e);have y:=CK B q7 U (k.drop _) w;obtain⟨l,s4,u1,u2,u3⟩:=Uj y F (k.take _) t;refine⟨s4.put d (Uc l),?_,(u2.put d (tF.nil (aen u3))).mono V⟩;simp only[nW,q2,q4,q5,q6,hd,X,if_true,JU F q,u1];rfl};cases a};cases a};cases a};cases a};cases j
def SA.isVal:SA->Bool
 | .val _ _=>I
 | .box _=>J
theorem EK:∀{l:M SA} {b:M D} {c:M A},gU l b=Z c->l.all SA.isVal=I->c.all A.isVal=I
 |[],b,c,h,_=>by cases b with|nil=>{cases h;rfl}|cons a b=>cases h
 | .val g l::as,b,c,h,d=>by obtain⟨r,i,e,f,rfl⟩:=iy h;simp only[mA]at e;obtain⟨vs,_,rfl⟩:=ay.1 e;rw[cK,aw]at d;rw[cK,EK f d.2];rfl
 | .box l::as,b,c,h,d=>by simp[SA.isVal]at d
def Mg(S:SS)(a:M SC)(d:u Nat)(n:Nat)(v:M SA×M SA):u (Bs×SS):=
 match d,v with
 |some b,([.box l],[])=>if Ao a=[] then (match Oq (b+500) 0 l n S with
  |(xs,S')=>Z ([],(S'.j8 b xs).put (Z b) ⟨[],.ptr b 0⟩)) else O
 |_,_=>O
theorem Xt{cf:Cf}{mf:Mf}{P:M (Nat×kP)}{G:Gf}(hG:Gok cf P G)(h:Rel ρ S s){N:Gs}(hk:jI ρ N=Z I){n:Nat}(hn:n=ρ.length){d:u Nat}{f:Nat}{A:M KX}{x:M SC}{es:M SE}{i:Nat}{m:kP}
  (hx:Hu S N A=Z x) (ha:Hn S x=Z (m.args,es)) (hi:look P i=Z m) (hf:m.f=f) (h9:f<100000) (hd:m.args.all SA.isVal=I)
  {q e:M D} {j:Nat} (hw:jk ρ es=Z q) (hg:G i q=Z (j,e)) {v:M SA×M SA} (hv:nth m.res j=Z v) {R:Bs} (k:Mg S x d n v=Z (R,S')) (hb:lF (ρ++e) R=Z iZ) :
  ∃H,ml cf mf s d (.cbx f A)=Z H/\Rel iZ S' H:=by obtain⟨T,as,L,q2,K,q4,q5,q6,q7⟩:=Ho h (xq h hk hx) ha;rw[hw]at L;cases L;obtain⟨MH,r,v',F,C,o,B⟩:=hG i m hi q j e hg;rw[K]at F;cases F;rw[hv]at C;cases C;rw[hf,Ew h9]at B;unfold Mg at k;split at k;{rename_i b l;split at k;{rename_i hl;generalize hq:Oq (b+500) 0 l n S=p at k;obtain⟨XO,S1⟩:=p;cases k;cases hb;unfold u6 at o;split at o;{rename_i G_ g e1 e2;cases o;obtain⟨r0,t,Q,c,rfl⟩:=iy e1;simp only[mA]at Q;obtain⟨vs,h3,rfl⟩:=ay.1 Q;have Y:t=[]:=by{revert c;generalize List.drop _ _=a;cases a with|nil=>{intro c;cases c;rfl}|cons y a=>intro c;cases c};subst Y;have w:g=[]:=by{revert e2;generalize List.drop _ _=a;cases a with|nil=>{intro c;cases c;rfl}|cons y a=>intro c;cases c};subst w;(have Vx:Loc (ρ++e) n e:=by rw[hn];exact Loc.new e);obtain⟨kh,X,W,V,U⟩:=yx (h.mono e) h3 ((Vx.take _).take _) hq;refine⟨(X.j8 b kh).put (Z b) (.ptr b 0),?_,(V.j8 b U).put (Z b) tF.ptr⟩;simp only[ml,q2,EK K hd,B,if_true,q5,hl,eM,W]};cases o};cases k};cases k
end
abbrev SX:=u (u Nat)
def Va:SX->Ex
 |none=>.norm
 |some O=>.ret
 |some (Z i)=>.exit i
structure SO where
 x:SX
 S:SS
 m:Nat
 deriving DecidableEq
def HV(o:SO):M SO->Nat×M SO
 |[]=>(0,[o])
 |p::a=>if o=p then (0,p::a) else match HV o a with
  |(j,b)=>(j+1,p::b)
def pa:M SO->M SO->M Nat×M SO
 |[],acc=>([],acc)
 |o::os,acc=>match HV o acc with
  |(j,b)=>match pa os b with
   |(c,a)=>(j::c,a)
def OF(f:M Nat)(t:ST):ST:=if f=cH f.length then t else .map f t
def Gu(x:SX)(a:Gs)(S:SS):ST×M SO:=match UT a S with
 |(b,es)=>(.leaf 0 es,[⟨x,b,es.length⟩])
def ZO(k:(M SA×M SA)->u (ST×M SO)):M (M SA×M SA)->M SO->u (ST×M SO)
 |[],acc=>Z (.nil,acc)
 |v::vs,acc=>match k v with
  |some (t,os)=>match pa os acc with
   |(f,c)=>match ZO k vs c with
    |some (a,b)=>Z (.cons (OF f t) a,b)
    |none=>O
  |none=>O
def Du(a:Gs):Bs->ST->ST
 |[],t=>t
 |(o,es)::b,t=>.op a o es (Du a b t)
def Px:SG:=⟨[(.k (.bool J),I)],.any⟩
def Fits(G:Gf)(t:ST)(outs:M SO)(c:M D)(run:u (Ex×St)):Prop:=
 ∀j a,eY G t 0 c=Z (j,a)->∃o b,nth outs j=Z o/\run=Z (Va o.x,b)/\a.length=o.m/\Rel a o.S b
theorem DF(o:SO):∀{l b:M SO} {j:Nat},HV o l=(j,b)->nth b j=Z o/\∀i x,nth l i=Z x->nth b i=Z x
 |[],b,j,h=>by cases h;exact⟨rfl,λi x a=>by cases a⟩
 |p::c,b,j,h=>by simp only[HV]at h;split at h;{rename_i e;cases h;subst e;exact⟨rfl,λ_ _ a=>a⟩};generalize d:HV o c=q at h;obtain⟨m,k⟩:=q;cases h;obtain⟨g,f⟩:=DF o d;refine⟨g,λi x a=>?_⟩;cases i with|zero=>{exact a}|succ i=>exact f i x a
theorem pL:∀{os a b:M SO} {c:M Nat},pa os a=(c,b)->(∀i o,nth os i=Z o->∃j,nth c i=Z j/\nth b j=Z o)/\∀i x,nth a i=Z x->nth b i=Z x
 |[],a,b,c,h=>by cases h;exact⟨λi o m=>(by cases m),λ_ _ d=>d⟩
 |o::os,a,b,c,h=>by simp only[pa]at h;generalize l:HV o a=q at h;obtain⟨j,t⟩:=q;simp only at h;generalize e:pa os t=q at h;obtain⟨k,v⟩:=q;cases h;obtain⟨s,r⟩:=DF o l;obtain⟨n,g⟩:=pL e;refine⟨λi p f=>?_,λi x d=>g i x (r i x d)⟩;cases i with|zero=>{cases f;exact⟨j,rfl,g j _ s⟩}|succ i=>exact n i p f
def W_:∀{n i:Nat},i<n->nth (cH n) i=Z i:=by intro n i h;rw[ek];simp[h]
theorem Cp{a:Type}:∀{l:M a} {i:Nat} {x:a},nth l i=Z x->i<l.length
 |_::_,0,_,_=>by simp
 |_::l,i+1,x,h=>by simpa using Cp (l:=l) h
 |[],_,_,h=>by simp[nth]at h
section
variable {G:Gf} {ρ:M D} {run:u (Ex×St)}
theorem Fits.map{t:ST}{outs outs':M SO}{f:M Nat}(h:Fits G t outs ρ run)(p:∀i o,nth outs i=Z o->∃j,nth f i=Z j/\nth outs' j=Z o):Fits G (OF f t) outs' ρ run:=by intro j q hd;unfold OF at hd;split at hd;{rename_i s;obtain⟨o,g,m,c,y,x⟩:=h j q hd;obtain⟨r,a,l⟩:=p j o m;have w:=Cp a;rw[s,W_ w]at a;cases a;exact⟨o,g,l,c,y,x⟩};simp only[eY]at hd;split at hd;{rename_i n e A;obtain⟨K,m,c⟩:=ay.1 hd;simp only[aP]at c;obtain⟨rfl,rfl⟩:=c;obtain⟨o,g,H,F,C,B⟩:=h n e A;obtain⟨r,a,l⟩:=p n o H;rw[m]at a;cases a;exact⟨o,g,l,F,C,B⟩};cases hd
theorem Fits.more{t:ST}{outs a:M SO}(h:Fits G t outs ρ run)(f:∀i o,nth outs i=Z o->nth a i=Z o):Fits G t a ρ run:=λj c hd=>by obtain⟨o,e,l,g⟩:=h j c hd;exact⟨o,e,f j o l,g⟩
theorem v8{x:SX}{a:Gs}{S:SS}{s:St}{t:ST}{outs:M SO}(h:Rel ρ S s)(e:jI ρ a=Z I)(b:Gu x a S=(t,outs)):Fits G t outs ρ (Z (Va x,s)):=by intro j f hd;unfold Gu at b;generalize d:UT a S=q at b;obtain⟨i,es⟩:=q;cases b;simp only[eY]at hd;split at hd;{rename_i g c;cases hd;exact⟨_,s,rfl,rfl,lj c,So h e d c⟩};cases hd
theorem D4{gs:Gs}:∀{d:Bs} {t:ST} {ρ:M D} {r:Nat×M D} {b:Bool},jI ρ gs=Z b->eY G (Du gs d t) 0 ρ=Z r->∃a,a.length=d.length/\eY G t 0 (ρ++a)=Z r/\(b=I->lF ρ d=Z (ρ++a))
 |[],t,ρ,r,b,c,h=>⟨[],rfl,by rw[aH];exact h,λ_=>by simp[lF]⟩
 |(o,es)::d,t,ρ,r,b,c,h=>by simp only[Du,eY,c]at h;cases b with|true=>{simp only at h;split at h;{rename_i k i;split at h;{rename_i x j;obtain⟨a,f,e,g⟩:=D4 (kS [x] c) h;refine⟨x::a,by simp[f],by simpa using e,λ_=>?_⟩;simp only[lF,i,j];simpa using g rfl};cases h};cases h}|false=>simp only at h;obtain⟨a,f,e,g⟩:=D4 (kS [.bool J] c) h;exact⟨.bool J::a,by simp[f],by simpa using e,λh=>by cases h⟩
theorem KA{n:Cf}{m:Mf}{S:SS}{s:St}(h:Rel ρ S s){d:u Nat}{op:KO}{g:Nat}{w:Bool}{o:Gs}{e:SE}(B:look S.sl g=Z ⟨o,.b (.d e)⟩){b:Bool}(f:jI ρ (o++[(e,w)])=Z b) :
  wR n m s ⟨d,op,Z (g,w)⟩=if b=I then DW n m s d op else Z (s.put d .wD):=by obtain⟨K,H,F,C⟩:=h.sl g _ B;have app:∀{j:Gs} {c:Bool},jI ρ j=Z c->jI ρ (j++[(e,w)])=if c=I then jI ρ [(e,w)] else Z J:=by{intro j;induction j with|nil=>{intro c i;cases i;rfl}|cons p j y=>intro c i;obtain⟨a,v⟩:=p;simp only[jI,ax]at i ⊢;split at i;{split at i;{rename_i l;rw[if_pos l];exact y i};rename_i l;rw[if_neg l];cases i;rfl};cases i};rw[app H]at f;cases K with|false=>{simp only[aL,if_false]at f;cases f;simp only[wR,C rfl,aL,if_false]}|true=>simp only[if_true]at f;obtain⟨x,r,q⟩:=F rfl;simp only[jI,r]at f;split at f;{rename_i t A;cases A;simp only[wR,q];split at f;{rename_i k;cases f;rw[if_pos k,if_pos rfl]};rename_i k;cases f;rw[if_neg k,if_neg (by simp)]};cases f
theorem R6{c:C}(h:c=.wD):tF ρ Px c:=⟨J,rfl,λh=>(by cases h),λ_=>h⟩
theorem yp{gs b:Gs}(h:jI ρ gs=Z I)(c:jI ρ b=Z I):jI ρ (gs++b)=Z I:=Ja λp a=>by rcases aZ.1 a with a|a;{exact nX h p a};exact nX c p a
theorem E_:∀{a:Gs},jI ρ a=Z J->∃p∈a,p.1.d ρ=Z (.bool (!p.2))
 |[],h=>by cases h
 |(g,w)::a,h=>by simp only[jI]at h;split at h;{rename_i b c;split at h;{obtain⟨p,f,e⟩:=E_ h;exact⟨p,dO _ f,e⟩};rename_i i;refine⟨(g,w),dV,?_⟩;rw[c];cases b<;>cases w<;>simp_all};cases h
end
def KG(f:Nat)(as:M SA):M (Nat×kP)->u Nat
 |[]=>O
 |(i,a)::l=>if a.f=f/\a.args=as then Z i else KG f as l
def AS(hint:M Nat)(c:M (Nat×kP))(S:SS)(n:Nat)(d:u Nat)(f:Nat)(a:M SC)(k:SS->Nat->u (ST×M SO)):u (ST×M SO):=
 match Hn S a with
 |some (as,es)=>match KG f as c with
  |some i=>match look c i with
   |some b=>if b.f=f/\b.args=as/\(k8 (uu S a) && k8 (rN a) && (uu S a).all (λr=>!(Ao a).contains r))=I then
     (match ZO (λv=>match Hp hint S a d n v with
      |some (e,h)=>match k h (n+(xB v.1+xB v.2)+e.length) with
       |some (t,outs)=>Z (Du [] e t,outs)
       |none=>O
      |none=>O) b.res []with
     |some (g,outs)=>Z (.call i es g,outs)
     |none=>O) else O
   |none=>O
  |none=>O
 |none=>O
def Hq(hint:M Nat)(h:M (Nat×kP))(S:SS)(e:Gs)(n:Nat)(d:u Nat)(op:KO)(k:SS->Nat->u (ST×M SO)):u (ST×M SO):=
 match op with
 | .call f xs=>match Hu S e xs with
  |some j=>if f<100000 then AS hint h S n d f j k else O
  |none=>O
 | .MI o f F x y=>match gx S e x,gx S e y with
  |some c,Z (.fn p a)=>if p=F then AS hint h S n d (UU o f) (c::a.map λb=>.ptr b 0) k else O
  |_,_=>O
 | .cbx f xs=>match Hu S e xs with
  |some j=>match Hn S j with
   |some (as,es)=>match KG f as h with
    |some i=>match look h i with
     |some g=>if g.f=f/\g.args=as/\f<100000/\g.args.all SA.isVal=I then
       (match ZO (λv=>match Mg S j d n v with
        |some (a,l)=>match k l (n+(xB v.1+xB v.2)+a.length) with
         |some (t,outs)=>Z (Du [] a t,outs)
         |none=>O
        |none=>O) g.res []with
       |some (m,outs)=>Z (.call i es m,outs)
       |none=>O) else O
     |none=>O
    |none=>O
   |none=>O
  |none=>O
 |op=>match tt hint S e n d op with
  |some (a,l)=>match k l (n+a.length) with
   |some (t,outs)=>Z (Du [] a t,outs)
   |none=>O
  |none=>O
def O_(hint:M Nat)(e:M (Nat×kP))(S:SS)(a:Gs)(n:Nat)(d:u Nat)(op:KO)(k:SS->Nat->u (ST×M SO)):u (ST×M SO):=
 if op.qk=I then (match aeY S a n op with
  |some (b,c)=>match k (S.put d ⟨[],c⟩) (n+b.length) with
   |some (t,outs)=>Z (Du [] b t,outs)
   |none=>O
  |none=>O) else Hq hint e S a n d op k
def af7(S:SS)(a:Gs):Bool:=(S.sl.take 3).any λp=>match look S.sl p.1 with
 |some g=>Z' (g.gs=a)
 |none=>J
def full(S:SS)(b:Gs)(a:Bs):Bs:=match a with
 |[]=>if af7 S b=I then [] else [(.pl,[])]
 |a=>a
def Hf(b c:Gs->u (ST×M SO)):Gs->Gs->u (ST×M SO)
 |[],a=>b a
 |p::d,a=>if p∈a then Hf b c d a else match Hf b c d (p::a),c ((p.1,!p.2)::a) with
  |some (g,i),Z (e,h)=>match pa h i with
   |(f,outs)=>Z (.gd [p] g (OF f e),outs)
  |_,_=>O
def RC(hint:M Nat)(m:M (Nat×kP))(S:SS)(a:Gs)(n:Nat)(i:KI)(k:SS->Gs->Nat->u (ST×M SO)):u (ST×M SO):=
 match i with
 |⟨d,op,O⟩=>O_ hint m S a n d op (λj h=>k j a h)
 |⟨d,op,Z (g,w)⟩=>match look S.sl g with
  |some ⟨f,.b (.d e)⟩=>
   if (f++[(e,w)]).all (λp=>Z' (p∈a))=I then O_ hint m S a n d op (λj h=>k j a h)
   else if (f++[(e,w)]).any (λp=>Z' ((p.1,!p.2)∈a))=I then k (S.put d Px) a n
   else if op.qk=I then (match aeY S ((f++[(e,w)])++a) n op with
    |some (o,c)=>match k (S.put d ⟨f++[(e,w)],c⟩) a (n+(full S (f++[(e,w)]) o).length) with
     |some (t,outs)=>Z (Du (f++[(e,w)]) (full S (f++[(e,w)]) o) t,outs)
     |none=>O
    |none=>O)
   else Hf (λl=>O_ hint m S l n d op (λj h=>k j l h)) (λl=>k (S.put d Px) l n) (f++[(e,w)]) a
  |some ⟨f,.any⟩=>if f=Px.gs then k (S.put d Px) a n else O
  |_=>O
def Hr(hint:M Nat)(c:M (Nat×kP))(b:oy):M KI->SS->Gs->Nat->u (ST×M SO)
 |[],S,a,n=>Z (Gu O a (S.ez b))
 |i::is,S,a,n=>RC hint c S a n i (λe f d=>Hr hint c b is e f d)
section
variable {ρ:M D} {S:SS} {s:St} {G:Gf} {cf:Cf} {mf:Mf} {kH:M (Nat×kP)} {hint:M Nat} {n:Nat} {d:u Nat} {kn:Gs}
theorem pF:∀{l:M SA} {b:M D} {f:M A},gU l b=Z f->b.length=xB l
 |[],[],_,_=>rfl
 |[],_::_,_,h=>by cases h
 |a::as,b,f,h=>by obtain⟨r,m,c,j,rfl⟩:=iy h;have i:=pF j;have g:(b.take a.n).length=a.n:=by{cases a with|val k l=>{simp only[mA]at c;obtain⟨vs,e,_⟩:=ay.1 c;exact na e}|box l=>simp only[mA]at c;obtain⟨vs,e,_⟩:=ay.1 c;exact na e};rw[jK]at i;rw[bo]at g;simp only[xB];omega
theorem Nz{v:M SA×M SA}{a:M D}{r:M A×M A}(h:u6 v a=Z r):a.length=xB v.1+xB v.2:=by unfold u6 at h;split at h;{rename_i g outs f e;have c:=pF f;have b:=pF e;rw[bo]at c;rw[jK]at b;omega};cases h
def Yf(G:Gf)(t:ST)(j:Nat)(outs:M SO)(ρ:M D)(run:u (Ex×St)):Prop:=
 ∀i a,eY G t j ρ=Z (i,a)->∃o b,nth outs i=Z o/\run=Z (Va o.x,b)/\a.length=o.m/\Rel a o.S b
theorem KE{k:(M SA×M SA)->u (ST×M SO)}:∀{vs:M (M SA×M SA)} {a b:M SO} {c:ST},ZO k vs a=Z (c,b)->
  (∀i x,nth a i=Z x->nth b i=Z x)/\∀j v,nth vs j=Z v->∃t os,k v=Z (t,os)/\∀run ρ,Fits G t os ρ run->Yf G c j b ρ run
 |[],a,b,c,h=>by cases h;exact⟨λ_ _ g=>g,λj v C=>(by cases C)⟩
 |v::vs,a,b,c,h=>by simp only[ZO]at h;split at h;{rename_i t os K;generalize F:pa os a=q at h;obtain⟨f,W⟩:=q;simp only at h;split at h;{rename_i r V L;cases h;obtain⟨Q,P⟩:=pL F;obtain⟨p,N⟩:=KE L;refine⟨λi x g=>p i x (P i x g),λj w m=>?_⟩;cases j with|zero=>{cases m;refine⟨t,os,K,λrun ρ l i e hd=>?_⟩;have:=l.map (f:=f) (outs':=b) (λi o H=>by obtain⟨j,B,A⟩:=Q i o H;exact⟨j,B,p j o A⟩);exact this i e hd}|succ j=>obtain⟨y,U,T,R⟩:=N j w m;exact⟨y,U,T,λrun ρ l i e hd=>R run ρ l i e hd⟩};cases h};cases h
theorem xj{b:Bs}{t:ST}{outs:M SO}{run:u (Ex×St)}(h:∀a,lF ρ b=Z a->Fits G t outs a run):Fits G (Du [] b t) outs ρ run:=by intro j c hd;obtain⟨g,i,f,e⟩:=D4 (gs:=[]) rfl hd;exact h _ (e rfl) j c f
theorem OX:∀(a:M Nat),Bf ρ (a.map λb=>.ptr b 0) (a.map λb=>.ptr b 0)
 |[]=>rfl
 |b::a=>⟨_,_,rfl,rfl,OX a⟩
theorem C_(hG:Gok cf kH G)(h:Rel ρ S s)(W:jI ρ kn=Z I)(y:n=ρ.length){f:Nat}{A:M SC}{g:M C}{cf0:Cf}{f0:Nat}{k:SS->Nat->u (ST×M SO)}{t:ST}{outs:M SO}{run:St->u (Ex×St)}
  (Dm:Bf ρ A g) (Q:∀as r,YP cf f as=Z r->cf0 f0 as=Z r) (hc:∀m b l t outs,Rel b m l->jI b kn=Z I->k m b.length=Z (t,outs)->Fits G t outs b (run l))
  (a:AS hint kH S n d f A k=Z (t,outs)):Fits G t outs ρ ((nW cf0 s d f0 g).bind run):=by unfold AS at a;split at a;{rename_i as es ha;split at a;{rename_i i hi;split at a;{rename_i P V;split at a;{rename_i U;obtain⟨rfl,rfl,hd⟩:=U;split at a;{rename_i ts o Y;cases a;obtain⟨_,h2⟩:=KE (G:=G) Y;intro j B c;simp only[eY]at c;split at c;{rename_i F R;split at c;{rename_i x w X;obtain⟨as,r,v,L,K,q,H⟩:=hG i P V F x w X;obtain⟨t,os,e,g2⟩:=h2 x v K;split at e;{rename_i bs m T;split at e;{rename_i t' PS N;cases e;refine g2 _ (ρ++w) ?_ j B c;refine xj λb p=>?_;obtain⟨l,e1,e2⟩:=RB h y Dm ha hd R L q (Q _ _ H) T p;rw[e1];obtain⟨τ,VG⟩:=oL p;refine hc m b l _ _ e2 (by rw[VG,bh];exact kS _ W) ?_;rw[tj p,az,<- y,Nz q];exact N};cases e};cases e};cases c};cases c};cases a};cases a};cases a};cases a};cases a
theorem Pb(L:Gok cf kH G)(h:Rel ρ S s)(m:jI ρ kn=Z I)(w:n=ρ.length){op:KO}{k:SS->Nat->u (ST×M SO)}{t:ST}{outs:M SO}{run:St->u (Ex×St)}
  (K:∀q g l t outs,Rel g q l->jI g kn=Z I->k q g.length=Z (t,outs)->Fits G t outs g (run l)) (a:Hq hint kH S kn n d op k=Z (t,outs)) :
  op.qk=J/\Fits G t outs ρ ((ml cf mf s d op).bind run):=by unfold Hq at a;split at a;{rename_i f xs;refine⟨rfl,?_⟩;split at a;{rename_i cs C;split at a;{rename_i P;exact C_ (cf0:=cf) (f0:=f) L h m w (xq h m C) (λas r e=>by rwa [Ew P]at e) K a};cases a};cases a};{rename_i nd f F x y;refine⟨rfl,?_⟩;split at a;{rename_i c F' A C hy;split at a;{rename_i hF;have W:=dc h m hy;simp only[lf]at W;simp only[ml,W,if_pos hF];exact C_ (cf0:=λ_=>yh nd (cf f)) (f0:=0) L h m w (show Bf ρ (c::A.map λb=>.ptr b 0) (gG s x::A.map λb=>.ptr b 0) from ⟨_,_,rfl,dc h m C,OX A⟩) (λas r e=>by rwa [DK]at e) K a};cases a};cases a};{rename_i f xs;refine⟨rfl,?_⟩;split at a;{rename_i cs C;split at a;{rename_i as es ha;split at a;{rename_i i hi;split at a;{rename_i sg Y;split at a;{rename_i hq;obtain⟨rfl,rfl,P,hd⟩:=hq;split at a;{rename_i ts p hf;cases a;obtain⟨_,h2⟩:=KE (G:=G) hf;intro j σ B;simp only[eY]at B;split at B;{rename_i ws hw;split at B;{rename_i X V hg;obtain⟨as,r,v,w1,U,w3,w4⟩:=L i sg Y ws X V hg;obtain⟨t,os,H,g2⟩:=h2 X v U;split at H;{rename_i A q hr;split at H;{rename_i t' PS N;cases H;refine g2 _ (ρ++V) ?_ j σ B;refine xj λg o=>?_;obtain⟨l,R,Q⟩:=Xt (cf:=cf) (mf:=mf) L h m w C ha Y rfl P hd hw hg U hr o;rw[R];obtain⟨τ,T⟩:=oL o;refine K q g l _ _ Q (by rw[T,bh];exact kS _ m) ?_;rw[tj o,az,<- w,Nz w3];exact N};cases H};cases H};cases B};cases B};cases a};cases a};cases a};cases a};cases a};cases a};split at a;{rename_i A q hN;split at a;{rename_i t' p N;cases a;have hp:∀g,lF ρ A=Z g->op.qk=J/\∃l,ml cf mf s d op=Z l/\Rel g q l:=λg o=>RF h m w hN o;refine⟨(by cases op<;>first|rfl|cases hN),xj λg o=>?_⟩;obtain⟨_,l,R,Q⟩:=hp g o;rw[R];obtain⟨τ,T⟩:=oL o;refine K q g l _ _ Q (by rw[T];exact kS _ m) ?_;rw[tj o,<- w];exact N};cases a};cases a
theorem Hj(x:Gok cf kH G)(h:Rel ρ S s)(g:jI ρ kn=Z I)(f:n=ρ.length){op:KO}{k:SS->Nat->u (ST×M SO)}{t:ST}{outs:M SO}{run:St->u (Ex×St)}
  (m:∀p b j t outs,Rel b p j->jI b kn=Z I->k p b.length=Z (t,outs)->Fits G t outs b (run j)) (a:O_ hint kH S kn n d op k=Z (t,outs)) :
  Fits G t outs ρ ((DW cf mf s d op).bind run):=by unfold O_ at a;split at a;{rename_i l;split at a;{rename_i H c w;split at a;{rename_i F e r;cases a;refine xj λb i=>?_;obtain⟨v,C,B⟩:=Ht h g f w i;obtain⟨q,o⟩:=oL i;simp only[DW,l,if_true,C,aX,dR];refine m _ b _ _ _ ((o▸h.mono q:Rel b S s).put d (tF.nil B)) (by rw[o];exact kS _ g) ?_;rw[tj i,<- f];exact r};cases a};cases a};rename_i l;obtain⟨A,y⟩:=Pb (mf:=mf) x h g f m a;simp only[DW,A,aL,if_false];exact y
theorem ZY{i:Gs}{e:Bs}{c:M D}(h:lF ρ (full S i e)=Z c):∃a,c=ρ++a/\∃f j,lF ρ e=Z f/\c=f++j:=by obtain⟨a,g⟩:=oL h;refine⟨a,g,?_⟩;cases e with|nil=>{exact⟨ρ,a,rfl,g⟩}|cons b e=>exact⟨c,[],h,by simp⟩
theorem abX(h:Rel ρ S s){c:Gs}(e:af7 S c=I):∃b,jI ρ c=Z b:=by obtain⟨p,_,a⟩:=fG.1 e;split at a;{rename_i g f;obtain⟨b,i,_⟩:=h.sl _ g f;exact⟨b,(of_decide_eq_true a)▸i⟩};cases a
theorem S_{a:Gs}{e c:ST}{outs:M SO}{run:u (Ex×St)}(g:jI ρ a=Z I->Fits G e outs ρ run)(f:jI ρ a=Z J->Fits G c outs ρ run):Fits G (.gd a e c) outs ρ run:=by intro j b hd;simp only[eY]at hd;split at hd;{rename_i h;exact g h j b hd};{rename_i h;exact f h j b hd};cases hd
theorem aaa:∀{a:Gs} {p:SE×Bool} {c:Gs},jI ρ a=Z I->p.1.d ρ=Z (.bool (!p.2))->jI ρ (a++p::c)=Z J
 |[],p,c,_,b=>by obtain⟨e,w⟩:=p;simp only[av,jI]at b ⊢;rw[b];cases w<;>rfl
 |(g,v)::a,p,c,h,b=>by have f:=nX h (g,v) (by simp);simp only[ax,jI]at f h ⊢;rw[f]at h ⊢;simp only[if_true]at h ⊢;exact aaa h b
theorem CD{v w:Gs->u (ST×M SO)}{run:u (Ex×St)}{full_:Gs}(l:∀h {t:ST} {o:M SO},jI ρ h=Z I->jI ρ full_=Z I->v h=Z (t,o)->Fits G t o ρ run)
  (m:∀h {t:ST} {o:M SO},jI ρ h=Z I->jI ρ full_=Z J->w h=Z (t,o)->Fits G t o ρ run):∀{gs pre kn:Gs} {t:ST} {outs:M SO},full_=pre++gs->jI ρ pre=Z I->jI ρ kn=Z I->Hf v w gs kn=Z (t,outs)->Fits G t outs ρ run
 |[],pre,kn,t,outs,j,e,c,a=>l kn c (by rw[j,aH];exact e) a
 |p::C,pre,kn,t,outs,j,e,c,a=>by (have g:full_=(pre++[p])++C:=by rw[j];simp);simp only[Hf]at a;split at a;{rename_i K;exact CD l m g (yp e (Ja λq b=>by simp only[bO]at b;subst b;exact nX c _ K)) c a};split at a;{rename_i P H N F L hB;generalize b:pa F H=q at a;obtain⟨f,k⟩:=q;cases a;obtain⟨B,A⟩:=pL b;refine S_ (λi=>?_) λi=>?_;{exact (CD l m g (yp e i) (yp (gs:=[p]) i c) L).more A};obtain⟨r,x,y⟩:=E_ i;simp only[bO]at x;subst x;exact Fits.map (m _ (yp (gs:=[(r.1,!r.2)]) (Ja λq b=>by simp only[bO]at b;subst b;exact y) c) (by rw[j];exact aaa e y) hB) B};cases a
theorem GV{a:Gs}{o:PO}{es:M SE}{c:Bs}{t:ST}{r:Nat×M D}(h:eY G (Du a ((o,es)::c) t) 0 ρ=Z r):∃b,jI ρ a=Z b:=by simp only[Du,eY]at h;split at h;{exact⟨_,‹_›⟩};{exact⟨_,‹_›⟩};cases h
theorem agM(e:Rel ρ S s){a:Gs}{c:Bs}{t:ST}{r:Nat×M D}(h:eY G (Du a (full S a c) t) 0 ρ=Z r):∃b,jI ρ a=Z b:=by cases c with|nil=>{simp only[full]at h;split at h;{exact abX e ‹_›};exact GV h}|cons b c=>exact GV h
theorem agD{g:Nat}{w:Bool}{op:KO}(h:Rel ρ S s)(m:jI ρ kn=Z I){i:Gs}{e:SE}(l:look S.sl g=Z ⟨i,.b (.d e)⟩)(o:(i++[(e,w)]).any (λp=>Z' ((p.1,!p.2)∈kn))=I) :
  wR cf mf s ⟨d,op,Z (g,w)⟩=Z (s.put d .wD):=by obtain⟨v,t,r,q⟩:=h.sl g _ l;cases v with|false=>{simp only[wR,q rfl]}|true=>obtain⟨p,a,k⟩:=fG.1 o;have c:=nX m _ (of_decide_eq_true k);rcases aZ.1 a with a|a;{have:=nX t p a;simp only at c;rw[c]at this;exact absurd this (by cases p.2<;>simp)};simp only[bO]at a;subst a;obtain⟨x,f,j⟩:=r rfl;simp only at c;rw[c]at f;cases f;simp only[wR,j];rw[if_neg (by cases w<;>simp)]
theorem Ec(F:Gok cf kH G)(h:Rel ρ S s)(l:jI ρ kn=Z I){i:KI}{k:SS->Gs->Nat->u (ST×M SO)}{t:ST}{outs:M SO}{run:St->u (Ex×St)}
  (cont:∀{x:Gs} (P:SS) (q:M D) (L:St) (t:ST) (outs:M SO),Rel q P L->jI q x=Z I->k P x q.length=Z (t,outs)->Fits G t outs q (run L))
  (a:RC hint kH S kn ρ.length i k=Z (t,outs)):Fits G t outs ρ ((wR cf mf s i).bind run):=by obtain⟨d,op,gd⟩:=i;cases gd with|none=>{simp only[RC]at a;exact Hj F h l rfl (run:=run) cont a}|some gw=>obtain⟨g,w⟩:=gw;simp only[RC]at a;split at a;{rename_i y e o;split at a;{rename_i Q;have f:jI ρ (y++[(e,w)])=Z I:=QG l Q;rw[KA h o f,if_pos rfl];exact Hj F h l rfl (run:=run) cont a};split at a;{rename_i U;rw[agD h l o U,dR];exact cont _ _ _ _ _ (h.put d (R6 rfl)) l a};split at a;{rename_i R;split at a;{rename_i bs c V;split at a;{rename_i t' A C;cases a;intro j K hd;obtain⟨b,f⟩:=agM h hd;obtain⟨m,r,N,H⟩:=D4 f hd;rw[KA h o f];(have p:ρ.length+(full S (y++[(e,w)]) bs).length=(ρ++m).length:=by rw[az,r]);rw[p]at C;cases b with|true=>{obtain⟨_,_,X9,XP,Y,X⟩:=ZY (H rfl);obtain⟨v,e1,e2⟩:=Ht h (yp f l) rfl V Y;simp only[DW,R,if_true,e1,aX,dR];refine cont _ _ _ _ _ ((h.mono m).put d ?_) (kS m l) C j K N;exact⟨I,kS m f,λ_=>X▸e2.mono XP,λh=>(by cases h)⟩}|false=>rw[if_neg (by simp),dR];refine cont _ _ _ _ _ ((h.mono m).put d ?_) (kS m l) C j K N;exact⟨J,kS m f,λh=>(by cases h),λ_=>rfl⟩};cases a};cases a};refine CD (full_:=y++[(e,w)]) (λx _ _ B f W=>?_) (λx _ _ B f hB=>?_) (pre:=[]) rfl rfl l a;{rw[KA h o f,if_pos rfl];exact Hj F h B rfl (run:=run) cont W};rw[KA h o f,if_neg (by simp),dR];exact cont _ _ _ _ _ (h.put d (R6 rfl)) B hB};{rename_i y o;split at a;{rename_i f;obtain⟨b,r,_,H⟩:=h.sl g _ o;rw[f]at r;cases r;(have T:wR cf mf s ⟨d,op,Z (g,w)⟩=Z (s.put d .wD):=by simp only[wR,H rfl]);rw[T,dR];exact cont _ _ _ _ _ (h.put d (R6 rfl)) l a};cases a};cases a
theorem JX(j:Gok cf kH G){a:oy}:∀{b:M KI} {S:SS} {kn:Gs} {ρ:M D} {s:St} {t:ST} {outs:M SO},Rel ρ S s->jI ρ kn=Z I->Hr hint kH a b S kn ρ.length=Z (t,outs)->
  Fits G t outs ρ (nrm a (nh cf mf b s))
 |[],S,kn,ρ,s,t,outs,h,f,c=>by simp only[Hr,ao]at c;exact v8 (h.ez a) f c
 |i::b,S,kn,ρ,s,t,outs,h,f,c=>by have g:nrm a (nh cf mf (i::b) s)=(wR cf mf s i).bind λe=>nrm a (nh cf mf b e):=by{simp only[nh];cases wR cf mf s i<;>rfl};rw[g];simp only[Hr]at c;exact Ec j h f (run:=λe=>nrm a (nh cf mf b e)) (λp o e t outs m l k=>JX j m l k) c
end
def KO.Xd:KO->M KX
 | .st _ x y=>[x,y]
 | .uX _ _ xs=>xs
 | .app _ _ _ x y=>[x,y]
 | .call _ xs=>xs
 | .MI _ _ _ x y=>[x,y]
 | .IT _ x _=>[x]
 | .jn x _=>[x]
 |_=>[]
def nD(s:St):C->M Nat
 | .ptr b _=>b::rowsOf ((look s.bx b).getD [])
 | .pG r _ _ _=>[r]
 | .fn _ a=>a.flatMap λb=>b::rowsOf ((look s.bx b).getD [])
 |c=>rowsOf c.cells
def wZ(s:St)(c:C):∀q∈rowsOf c.cells,q∈nD s c:=by intro q h;cases c<;>first|exact h|(simp[C.cells,rowsOf]at h)
def D0(s:St)(c:C):∀q∈rowsOf [c],q∈nD s c:=by intro q h;cases c<;>first|exact h|(simp[rowsOf]at h)
theorem Ah(s:St)(f:C->M Nat)(b:∀c,∀q∈f c,q∈nD s c)(g:M C->M Nat)(e:g []=[])(d:∀c i,g (c::i)=f c++g i):∀(a:M KX),∀q∈g (a.map (gG s)),∃x∈a,q∈nD s (gG s x)
 |[],q,h=>by simp[e]at h
 |x::a,q,h=>by rw[bc,d]at h;rcases aZ.1 h with h|h;{exact⟨x,by simp,b _ q h⟩};obtain⟨y,j,k⟩:=Ah s f b g e d a q h;exact⟨y,by simp[j],k⟩
theorem XL(s:St)(d:u Nat)(op:KO):∀q∈gm s d op,q∈d.toList\/∃x∈op.Xd,q∈nD s (gG s x):=by intro q h;cases op with|st n x y=>{simp only[gm]at h;split at h;{rename_i b o e;simp only[bO]at h;exact .inr ⟨x,by simp[KO.Xd],by rw[e];simp[nD,h]⟩};{rename_i r k i o e;rcases aU.1 h with h|h;{exact .inr ⟨x,by simp[KO.Xd],by rw[e];simp[nD,h]⟩};exact .inr ⟨y,by simp[KO.Xd],wZ s _ q h⟩};cases h}|uX k G m=>{simp only[gm]at h;rcases aZ.1 h with h|h;{exact .inl h};exact .inr (Ah s (λc=>rowsOf c.cells) (wZ s) AN rfl (λ_ _=>rfl) m q h)}|app k K G x y=>{simp only[gm]at h;rcases aZ.1 h with h|h;{rcases aZ.1 h with h|h;{exact .inl h};exact .inr ⟨x,by simp[KO.Xd],D0 s _ q h⟩};exact .inr ⟨y,by simp[KO.Xd],D0 s _ q h⟩}|call f m=>{simp only[gm,qU]at h;rcases aZ.1 h with h|h;{rcases aZ.1 h with h|h;{refine .inr (Ah s (λc=>match c with | .ptr b _=>[b]|_=>[]) (λc q h=>?_) cN rfl (λc p=>by cases c<;>rfl) m q h);split at h;{simp only[bO]at h;simp[nD,h]};cases h};refine .inr (Ah s (oH s) (λc q h=>?_) (dz s) rfl (λc p=>rfl) m q h);unfold oH at h;split at h;{simp only[nD,aU];exact .inr h};cases h};exact .inr (Ah s (λc=>rowsOf c.cells) (wZ s) il rfl (λ_ _=>rfl) m q h)}|MI A f F x y=>{simp only[gm]at h;split at h;{rename_i D g B;simp only[qU]at h;have v:∀q∈cN (g.map λb=>C.ptr b 0)++dz s (g.map λb=>C.ptr b 0)++il (g.map λb=>C.ptr b 0),q∈nD s (.fn D g):=by{clear h B;simp only[nD];induction g with|nil=>{intro q h;simp[cN,dz,il]at h}|cons b g t=>intro q h;simp only[bc,cN,dz,oH,il,C.cells,rowsOf,av,aZ,aU,eJ]at h t ⊢;rcases h with ((h|h)|h|h)|h;{exact .inl (.inl h)};{exact .inr (t q (.inl (.inl h)))};{exact .inl (.inr h)};{exact .inr (t q (.inl (.inr h)))};exact .inr (t q (.inr h))};have e:∀q∈cN [gG s x]++oH s (gG s x)++rowsOf (gG s x).cells,q∈nD s (gG s x):=by{intro q h;rcases aZ.1 h with h|h;{rcases aZ.1 h with h|h;{cases w:gG s x<;>rw[w]at h<;>simp[cN]at h;simp[nD,h]};unfold oH at h;split at h;{rename_i w;rw[w];simp only[nD,aU];exact .inr h};cases h};exact wZ s _ q h};(have H:∀p,cN (gG s x::p)=cN [gG s x]++cN p:=λp=>by cases gG s x<;>rfl);rw[H (g.map λb=>C.ptr b 0)]at h;simp only[dz,il,aZ]at h;simp only[aZ]at e v;have j:q∈nD s (gG s x)->q∈d.toList\/∃a∈KO.Xd (.MI A f F x y),q∈nD s (gG s a):=λh=>.inr ⟨x,by simp[KO.Xd],h⟩;have l:q∈nD s (.fn D g)->q∈d.toList\/∃a∈KO.Xd (.MI A f F x y),q∈nD s (gG s a):=λh=>.inr ⟨y,by simp[KO.Xd],by rw[B];exact h⟩;rcases h with ((h|h)|h|h)|h|h;{exact j (e q (.inl (.inl h)))};{exact l (v q (.inl (.inl h)))};{exact j (e q (.inl (.inr h)))};{exact l (v q (.inl (.inr h)))};{exact j (e q (.inr h))};exact l (v q (.inr h))};cases h}|IT k x y=>{simp only[gm]at h;rcases aZ.1 h with h|h;{exact .inl h};exact .inr ⟨x,by simp[KO.Xd],D0 s _ q h⟩}|jn x y=>{simp only[gm]at h;rcases aZ.1 h with h|h;{exact .inl h};exact .inr ⟨x,by simp[KO.Xd],D0 s _ q h⟩}|_=>exact .inl h
def SZ(S:SS):M Nat->u (M Nat)
 |[]=>Z []
 |b::c=>match look S.bx b with
  |some a=>if a.all SB.cell=I then (SZ S c).map λl=>b::gH a++l else O
  |none=>O
def VH(S:SS):SC->u (M Nat)
 | .b x=>if x.cell=I then Z (gH [x]) else O
 | .agg a=>if a.all SB.cell=I then Z (gH a) else O
 | .ptr b _=>match look S.bx b with
  |some a=>if a.all SB.cell=I then Z (b::gH a) else O
  |none=>O
 | .pG r _ _ _=>Z [r]
 | .vi _ _=>Z []
 | .tw _=>Z []
 | .fn _ c=>SZ S c
 | .any=>O
def adq(S:SS):KX->u (M Nat)
 | .s d=>match look S.sl d with
  |some g=>if g.gs=Px.gs then Z [] else VH S g.c
  |none=>O
 |x=>match gx S [] x with
  |some c=>VH S c
  |none=>O
def Gt(S:SS)(a:Gs):KO->u (u Nat)
 | .ld _ x=>match gx S a x with
  |some (.ptr b _)=>Z (Z b)
  |some (.vi _ _)=>Z O
  |_=>O
 | .PI _=>O
 |_=>Z O
def Q1(S:SS)(c:Gs)(i:KI):u (u Nat):=
 match i.gd with
 |none=>Gt S c i.op
 |some (g,w)=>match look S.sl g with
  |some ⟨a,.b (.d e)⟩=>if (a++[(e,w)]).any (λp=>Z' ((p.1,!p.2)∈c))=I then Z O else Gt S ((a++[(e,w)])++c) i.op
  |some ⟨a,.any⟩=>if a=Px.gs then Z O else O
  |_=>O
def ad8(S:SS)(a:M (M Nat×Nat))(i:KI):Bool:=
 a.all (λp=>!(i.dst ==Z p.2)) && i.op.Xd.all λx=>match adq S x with
  |some l=>a.all λp=>!l.contains p.2
  |none=>a.isEmpty
def SB.zx:SB->Bool
 | .any=>J
 |_=>I
def U3:M (SB ⊕ M SB)->Bool
 |[]=>I
 | .inl x::xs=>x.zx && U3 xs
 | .inr l::xs=>l.all SB.zx && U3 xs
def SC.zx:SC->Bool
 | .b x=>x.zx
 | .agg xs=>xs.all SB.zx
 | .tw xs=>U3 xs
 | .any=>J
 |_=>I
def agv(a:oy)(S:SS):Bool:=
 a.s.all (λd=>match look S.sl d with
  |some g=>g.c.zx ||decide (g.gs=Px.gs)
  |none=>J) && a.b.all (λb=>match look S.bx b with
  |some e=>e.all SB.zx
  |none=>J) && a.r.all λr=>(look S.rw r).isSome
def AT(hint:M Nat)(d:M (Nat×kP))(g:oy):KT->M (M Nat×Nat)->SS->Gs->Nat->u (ST×M SO)
 | .nil,_,S,c,n=>Z (Gu O c (S.ez g))
 | .alt ⟨j,_,_,_,i⟩ is r,a,S,c,n=>
  if ad8 S (kC j a) i=I then (match RC hint d S c n i (λe k h=>
    if (kC j a).all (λp=>(look e.bx p.2).isSome)=I then AT hint d g is (kC j a) e k h else O),AT hint d g r a S c n with
   |some (m,t),Z (l,s)=>match pa s t with
    |(f,outs)=>if outs.all (λo=>agv g o.S)=I then Z (.both m (OF f l),outs) else O
   |_,_=>O) else O
 | .op ⟨j,q,w,v,i⟩ is,a,S,c,n=>
  if q=I then (if i.op.qk=I then (match Q1 S c i with
   |some b=>RC hint d S c n i (λe k h=>AT hint d g is (qp v a b) e k h)
   |none=>O) else O)
  else if ad8 S (kC j a) i=I then RC hint d S c n i (λe k h=>
   if (kC j a).all (λp=>(look e.bx p.2).isSome)=I then AT hint d g is (kC j a) e k h else O) else O
section
variable {ρ:M D} {S:SS} {s:St} {G:Gf} {cf:Cf} {mf:Mf} {kH:M (Nat×kP)} {hint:M Nat} {n:Nat} {d:u Nat} {kn:Gs}
theorem NX(h:Rel ρ S s):∀{e l:M Nat},SZ S e=Z l->∀q∈e.flatMap λb=>b::rowsOf ((look s.bx b).getD []),q∈l
 |[],l,c,q,a=>by simp at a
 |b::e,l,c,q,a=>by simp only[SZ]at c;split at c;{rename_i f i;split at c;{rename_i g;obtain⟨o,m,rfl⟩:=ay.1 c;obtain⟨p,k,j⟩:=h.bx b f i;rw[eJ,k,cJ,mM j g]at a;rcases aZ.1 a with a|a;{exact aZ.2 (.inl a)};exact aZ.2 (.inr (NX h m q a))};cases c};cases c
theorem Tl(h:Rel ρ S s){c:SC}{v:C}{l:M Nat}(f:lf ρ c v)(a:VH S c=Z l):∀q∈nD s v,q∈l:=by intro q g;cases c with|b x=>{simp only[VH]at a;split at a;{rename_i j;cases a;cases x with|d e=>{obtain⟨y,_,rfl⟩:=f;simp[nD,C.cells,rowsOf]at g}|nil k H=>{simp only[lf,lb]at f;subst f;simp[nD,C.cells,rowsOf]at g}|ref r=>{simp only[lf,lb]at f;subst f;simpa [nD,C.cells,rowsOf,gH] using g}|any=>cases j};cases a}|agg t=>{simp only[VH]at a;split at a;{rename_i j;cases a;obtain⟨w,rfl,p⟩:=f;simp only[nD,C.cells]at g;rwa [mM p j]at g};cases a}|tw t=>{obtain⟨w,rfl,p⟩:=f;simp[nD,C.cells,rowsOf]at g}|ptr b o=>{simp only[lf]at f;subst f;simp only[VH]at a;split at a;{rename_i t A;split at a;{rename_i j;cases a;obtain⟨w,p,B⟩:=h.bx b t A;simp only[nD,p,cJ]at g;rwa [mM B j]at g};cases a};cases a}|pG r k i o=>{obtain⟨m,_,rfl⟩:=f;cases a;exact g}|vi i o=>{obtain⟨x,w,_,_,rfl⟩:=f;simp[nD,C.cells,rowsOf]at g}|fn F K=>{simp only[lf]at f;subst f;exact NX h a q g}|any=>cases a
theorem adr(h:Rel ρ S s){x:KX}{l:M Nat}(a:adq S x=Z l):∀q∈nD s (gG s x),q∈l:=by cases x with|s d=>{simp only[adq]at a;split at a;{rename_i g m;obtain⟨b,i,p,f⟩:=h.sl d g m;split at a;{rename_i j;rw[j]at i;cases i;intro q e;simp only[gG,f rfl,nD,C.cells,rowsOf]at e;cases e};cases b with|true=>{exact Tl h (p rfl) a}|false=>intro q e;simp only[gG,f rfl,nD,C.cells,rowsOf]at e;cases e};cases a}|k c=>simp only[adq]at a;split at a;{rename_i r o;exact Tl h (dc h (gs:=[]) rfl o) a};cases a
theorem T4(h:Rel ρ S s){e:M (M Nat×Nat)}{i:KI}(f:ad8 S e i=I):∀p∈e,(!(gm s i.dst i.op).contains p.2)=I/\(!(i.dst ==Z p.2))=I:=by intro p c;simp only[ad8,aw,bG]at f;obtain⟨j,v⟩:=f;refine⟨?_,j p c⟩;rw[cx,dS];intro q;rcases XL s i.dst i.op p.2 (by simpa using q) with hd|⟨x,k,m⟩;{have:=j p c;cases g:i.dst with|none=>{rw[g]at hd;simp at hd}|some a=>rw[g]at hd this;simp at hd;simp[hd]at this};have:=v x k;split at this;{rename_i l o;have t:=bG.1 this p c;have r:=adr h o _ m;simp[r]at t};cases e with|nil=>{cases c}|cons a b=>cases this
theorem WU(h:Rel ρ S s){g:Gs}(f:jI ρ g=Z I){op:KO}{b:u Nat}(a:Gt S g op=Z b):rk s op=Z b:=by cases op with|ld n x=>{simp only[Gt]at a;split at a;{rename_i k o c;cases a;have:=dc h f c;simp only[lf]at this;simp only[rk,this]};{rename_i i o c;cases a;obtain⟨x,j,_,_,e⟩:=dc h f c;simp only[rk,e]};cases a}|PI x=>{cases a}|_=>exact a
theorem abC(h:Rel ρ S s)(B:jI ρ kn=Z I){kp:oy}{j:Nat}{al dn:M Nat}{i:KI}{is:KT}{tk:M (M Nat×Nat)}{b:u Nat}(a:i.op.qk=I)(k:Q1 S kn i=Z b) :
  ∃l,(∀p∈l,p∈qp dn tk b)/\ib cf mf kp (.op ⟨j,I,al,dn,i⟩ is) tk s=(wR cf mf s i).bind (ib cf mf kp is l):=by
 have f:∀p∈tk,p∈qp dn tk b:=by{intro p a;unfold qp;split;{exact dO _ a};exact a}
 have m:∀{gs:Gs},jI ρ gs=Z I->Gt S gs i.op=Z b->(match jl s i.op,rk s i.op with
   |some c,Z b=>ib cf mf kp is (qp dn tk b) (s.put i.dst c)
   |_,_=>O)=(DW cf mf s i.dst i.op).bind (ib cf mf kp is (qp dn tk b)):=by
  intro gs y o;rw[WU h y o];simp only[DW,a,if_true];cases jl s i.op<;>rfl
 obtain⟨d,op,gd⟩:=i;cases gd with|none=>{refine⟨_,λp a=>a,?_⟩;simp only[ib,if_true,wR];exact m B k}|some gw=>obtain⟨g,w⟩:=gw;simp only[Q1]at k;simp only[ib,if_true,wR];cases r:s.get g with|d x=>{cases x with|bool t=>{simp only;by_cases K:t=w;{subst K;simp only[if_true];refine⟨_,λp a=>a,?_⟩;split at k;{rename_i U e o;obtain⟨L,A,T,C⟩:=h.sl g _ o;cases L with|false=>{rw[C rfl]at r;cases r}|true=>obtain⟨x,P,H⟩:=T rfl;rw[r]at H;cases H;have y:=yp A (Ja (gs:=[(e,t)]) λq v=>by simp only[bO]at v;subst v;exact P);split at k;{rename_i R;obtain⟨p,a,v⟩:=fG.1 R;have N:=nX y p a;have F:=nX B _ (of_decide_eq_true v);simp only[N]at F;exact absurd F (by cases p.2<;>simp)};exact m (yp y B) k};{rename_i U o;split at k;{rename_i Q;obtain⟨L,A,_,C⟩:=h.sl g _ o;rw[Q]at A;cases A;rw[C rfl]at r;cases r};cases k};cases k};simp only[if_neg K,dR];exact⟨tk,f,rfl⟩}|_=>exact⟨tk,f,rfl⟩}|wD=>{simp only[dR];exact⟨tk,f,rfl⟩}|_=>exact⟨tk,f,rfl⟩
theorem xt{j:Nat}{a b:M (M Nat×Nat)}(h:∀p∈a,p∈b):∀p∈kC j a,p∈kC j b:=λp c=>by obtain⟨f,e⟩:=gF.1 c;exact gF.2 ⟨h p f,e⟩
theorem XI{e:M Nat}{b:u Nat}{c f:M (M Nat×Nat)}(h:∀p∈c,p∈f):∀p∈qp e c b,p∈qp e f b:=λp a=>by cases b with|none=>{exact h p a}|some b=>rcases aU.1 a with a|a;{exact a▸dV};exact dO _ (h p a)
theorem TY{a:Type}:∀{l:M a} {i:Nat} {x:a},nth l i=Z x->x∈l
 |y::l,0,x,h=>by cases h;exact dV
 |y::l,i+1,x,h=>dO _ (TY (l:=l) h)
theorem lb.zx{x:SB}{c g:C}(hd:x.zx=I)(h:lb ρ x c)(b:lb ρ x g):c=g:=by cases x with|d e=>{obtain⟨y,i,rfl⟩:=h;obtain⟨a,f,rfl⟩:=b;rw[i]at f;cases f;rfl}|any=>{cases hd}|_=>simp only[lb]at h b;rw[h,b]
theorem lb.ne{x:SB}{c:C}(hd:x.zx=I)(h:lb ρ x c):c≠.any:=by cases x with|d e=>{obtain⟨y,a,rfl⟩:=h;intro h;cases h}|any=>{cases hd}|_=>simp only[lb]at h;subst h;intro h;cases h
theorem eR.zx:∀{a:M SB} {e b:M C},a.all SB.zx=I->eR ρ a e->eR ρ a b->e=b
 |[],_,_,_,h,f=>by simp only[eR]at h f;rw[h,f]
 |x::a,_,_,hd,⟨c,e,j,i,g⟩,⟨o,b,m,l,k⟩=>by simp only[cK,aw]at hd;rw[j,m,i.zx hd.1 l,eR.zx hd.2 g k]
theorem vp.zx:∀{a:M (SB ⊕ M SB)} {e b:M C},U3 a=I->vp ρ a e->vp ρ a b->e=b
 |[],_,_,_,h,o=>by simp only[vp]at h o;rw[h,o]
 | .inl x::a,_,_,hd,⟨c,e,i,g,f⟩,⟨p,b,m,k,j⟩=>by simp only[U3,aw]at hd;rw[i,m,g.zx hd.1 k,vp.zx hd.2 f j]
 | .inr l::a,_,_,hd,⟨c,e,i,g,f⟩,⟨p,b,m,k,j⟩=>by simp only[U3,aw]at hd;rw[i,m,g.zx hd.1 k,vp.zx hd.2 f j]
theorem lf.zx{x:SC}{c q:C}(hd:x.zx=I)(h:lf ρ x c)(a:lf ρ x q):c=q:=by cases x with|b x=>{exact lb.zx hd h a}|agg t=>{obtain⟨p,rfl,f⟩:=h;obtain⟨g,rfl,e⟩:=a;rw[f.zx hd e]}|tw t=>{obtain⟨p,rfl,f⟩:=h;obtain⟨g,rfl,e⟩:=a;rw[f.zx hd e]}|ptr b o=>{simp only[lf]at h a;rw[h,a]}|pG r k i o=>{obtain⟨m,f,rfl⟩:=h;obtain⟨w,e,rfl⟩:=a;rw[f]at e;cases e;rfl}|vi i o=>{obtain⟨x,p,f,e,rfl⟩:=h;obtain⟨v,g,l,j,rfl⟩:=a;rw[f]at l;cases l;rw[e]at j;cases j;rfl}|fn F y=>{simp only[lf]at h a;rw[h,a]}|any=>cases hd
theorem lf.ne{x:SC}{c:C}(hd:x.zx=I)(h:lf ρ x c):c≠.any:=by cases x with|b x=>{exact lb.ne hd h}|agg f=>{obtain⟨e,rfl,a⟩:=h;intro h;cases h}|tw f=>{obtain⟨e,rfl,a⟩:=h;intro h;cases h}|ptr b o=>{simp only[lf]at h;subst h;intro h;cases h}|pG r k i o=>{obtain⟨m,a,rfl⟩:=h;intro h;cases h}|vi i o=>{obtain⟨x,e,a,g,rfl⟩:=h;intro h;cases h}|fn F j=>{simp only[lf]at h;subst h;intro h;cases h}|any=>cases hd
theorem Al{c:Type}(l b:M (Nat×c)):∀(a:M Nat),(∀d∈a,∃x,look l d=Z x/\look b d=Z x)->jo l a=jo b a
 |[],_=>rfl
 |d::a,h=>by obtain⟨x,i,g⟩:=h d (by simp);simp only[jo,i,g,Al l b a λe f=>h e (by simp[f])]
theorem aay{a:oy}{s i:St}(h:Rel ρ S (s.ez a))(t:Rel ρ S (i.ez a))(hd:agv a S=I):s.ez a=i.ez a:=by simp only[agv,aw,bG]at hd;obtain⟨⟨L,K⟩,H⟩:=hd;have Q:jo s.sl a.s=jo i.sl a.s:=by{refine Al _ _ _ λd k=>?_;have e:=L d k;split at e;{rename_i g w;obtain⟨b,j,o,F⟩:=h.sl d g w;obtain⟨W,m,l,C⟩:=t.sl d g w;rw[j]at m;cases m;have f:(s.ez a).get d=(i.ez a).get d/\(s.ez a).get d≠.any:=by{cases b with|false=>{rw[F rfl,C rfl];exact⟨rfl,by intro h;cases h⟩}|true=>have A:g.c.zx=I:=by{simp only[dE,decide_eq_true_eq]at e;rcases e with e|e;{exact e};rw[e]at j;cases j};exact⟨(o rfl).zx A (l rfl),(o rfl).ne A⟩};rw[Fy s a k,Fy i a k]at f;unfold St.get at f;cases q:look s.sl d with|none=>{rw[q]at f;exact absurd rfl f.2}|some x=>cases B:look i.sl d with|none=>{rw[q,B]at f;exact absurd f.1 (by intro h;rw[h]at f;exact f.2 rfl)}|some y=>rw[q,B]at f;exact⟨x,rfl,by rw[show y=x from f.1.symm]⟩};cases e};have P:jo s.bx a.b=jo i.bx a.b:=by{refine Al _ _ _ λd k=>?_;have e:=K d k;split at e;{rename_i v p;obtain⟨R,j,o⟩:=h.bx d v p;obtain⟨V,m,l⟩:=t.bx d v p;have:=o.zx e l;subst this;exact⟨R,(jw _ _ j).1,(jw _ _ m).1⟩};cases e};have N:jo s.rw a.r=jo i.rw a.r:=by{refine Al _ _ _ λd k=>?_;obtain⟨x,p⟩:=cB.1 (H d k);obtain⟨y,j,es,o,rfl⟩:=h.rw d x p;obtain⟨T,m,U,l,rfl⟩:=t.rw d x p;rw[o]at l;cases l;exact⟨_,(jw _ _ j).1,(jw _ _ m).1⟩};simp only[St.ez,Q,P,N]
theorem YJ{c:Type}{a b:u c}{r:c}(h:both a b=Z r):a=Z r:=by unfold both at h;split at h;{split at h;{cases h;rfl};cases h};cases h
theorem nc{f:oy}:∀{e:KT} {c:M (M Nat×Nat)} {s b:St},ib cf mf f e c s=Z b->∃g:St,b=g.ez f
 | .nil,c,s,b,h=>by simp only[ib,ao]at h;exact⟨s,h.symm⟩
 | .op ⟨j,q,l,k,i⟩ e,c,s,b,h=>by simp only[ib]at h;split at h;{split at h;{split at h;{exact nc h};cases h};split at h;{split at h;{split at h;{exact nc h};cases h};exact nc h};{exact nc h};cases h};simp only[nM]at h;split at h;{split at h;{exact nc h};cases h};cases h
 | .alt x e r,c,s,b,h=>by simp only[ib]at h;have a:=YJ h;simp only[nM]at a;split at a;{split at a;{exact nc a};cases a};cases a
theorem wB(B:Gok cf kH G){kp:oy}:∀{is:KT} {tk R:M (M Nat×Nat)} {S:SS} {kn:Gs} {ρ:M D} {s:St} {t:ST} {outs:M SO},(∀p∈tk,p∈R)->Rel ρ S s->jI ρ kn=Z I->AT hint kH kp is R S kn ρ.length=Z (t,outs)->
  Fits G t outs ρ (PN (ib cf mf kp is tk s))
 | .nil,tk,R,S,kn,ρ,s,t,outs,l,h,m,e=>by simp only[AT,ao]at e;exact v8 (h.ez kp) m e
 | .alt ⟨j,q,al,dn,i⟩ is r,tk,R,S,kn,ρ,s,t,outs,l,h,m,e=>by simp only[AT]at e;split at e;{rename_i Y;split at e;{rename_i ta oa tb ob hA hB;generalize x:pa ob oa=q at e;obtain⟨f,W⟩:=q;simp only at e;split at e;{rename_i apE;cases e;obtain⟨q1,q2⟩:=pL x;have fA:Fits G ta oa ρ (PN (nM cf mf ⟨j,q,al,dn,i⟩ tk s (ib cf mf kp is))):=by{have X:=T4 h Y;have g:PN (nM cf mf ⟨j,q,al,dn,i⟩ tk s (ib cf mf kp is))=(wR cf mf s i).bind λc=>if (kC j tk).all (λp=>!(gm s i.dst i.op).contains p.2 && (look c.bx p.2).isSome && !(i.dst ==Z p.2))=I then PN (ib cf mf kp is (kC j tk) c) else O:=by{simp only[nM];cases wR cf mf s i with|none=>{rfl}|some c=>simp only[dR];split<;>rfl};rw[g];refine Ec B h m (run:=λc=>if (kC j tk).all (λp=>!(gm s i.dst i.op).contains p.2 && (look c.bx p.2).isSome && !(i.dst ==Z p.2))=I then PN (ib cf mf kp is (kC j tk) c) else O) (λS' U c t outs C K k=>?_) hA;split at k;{rename_i A;have hc:(kC j tk).all (λp=>!(gm s i.dst i.op).contains p.2 && (look c.bx p.2).isSome && !(i.dst ==Z p.2))=I:=by{rw[bG];intro p y;have T:=xt (j:=j) l p y;obtain⟨P,N⟩:=X p T;have h3:=bG.1 A p T;have h4:(look c.bx p.2).isSome=I:=by{obtain⟨V,w⟩:=cB.1 h3;obtain⟨cs,Dm,_⟩:=C.bx p.2 V w;rw[Dm];rfl};rw[P,N,h4];rfl};show Fits G t outs U (if _ then _ else _);rw[if_pos hc];exact wB B (xt l) C K k};cases k};have fB:=wB B l h m hB;intro j' σ hd;simp only[eY]at hd;obtain⟨d1,d2⟩:=YI hd;obtain⟨o,sA,g1,Q,g3,g4⟩:=fA.more q2 j' σ d1;obtain⟨o',sB,w1,H,w3,w4⟩:=fB.map q1 j' σ d2;rw[g1]at w1;cases w1;have hA':∃a,nM cf mf ⟨j,q,al,dn,i⟩ tk s (ib cf mf kp is)=Z a:=by{cases w:nM cf mf ⟨j,q,al,dn,i⟩ tk s (ib cf mf kp is) with|none=>{rw[w]at Q;cases Q}|some a=>exact⟨a,rfl⟩};have hB':∃b,ib cf mf kp r tk s=Z b:=by{cases w:ib cf mf kp r tk s with|none=>{rw[w]at H;cases H}|some a=>exact⟨a,rfl⟩};obtain⟨a,A⟩:=hA';obtain⟨b,L⟩:=hB';have ka:∃s0:St,a=s0.ez kp:=by{have F:=A;simp only[nM]at F;split at F;{split at F;{exact nc F};cases F};cases F};obtain⟨a0,rfl⟩:=ka;obtain⟨b0,rfl⟩:=nc L;rw[A]at Q;rw[L]at H;simp only[PN,ao,aP]at Q H;obtain⟨ex,rfl⟩:=Q;obtain⟨_,rfl⟩:=H;have he:=aay g4 w4 (bG.1 apE o (TY g1));refine⟨o,_,g1,?_,g3,g4⟩;simp only[ib,A,L,both,he,if_true,PN,ex]};cases e};cases e};cases e
 | .op ⟨j,q,al,dn,i⟩ is,tk,R,S,kn,ρ,s,t,outs,l,h,m,e=>by simp only[AT]at e;split at e;{rename_i x;subst x;split at e;{rename_i y;split at e;{rename_i b L;obtain⟨v,P,N⟩:=abC (cf:=cf) (mf:=mf) (kp:=kp) (j:=j) (al:=al) (dn:=dn) (is:=is) (tk:=tk) h m y L;rw[N];(have g:PN ((wR cf mf s i).bind (ib cf mf kp is v))=(wR cf mf s i).bind λc=>PN (ib cf mf kp is v c):=by cases wR cf mf s i<;>rfl);rw[g];exact Ec B h m (run:=λc=>PN (ib cf mf kp is v c)) (λS' U c t outs C K k=>wB B (λp y=>XI l p (P p y)) C K k) e};cases e};cases e};rename_i x;have x:q=J:=by{cases q with|false=>{rfl}|true=>exact absurd rfl x};subst x;split at e;{rename_i Y;have X:=T4 h Y;have g:PN (ib cf mf kp (.op ⟨j,J,al,dn,i⟩ is) tk s)=(wR cf mf s i).bind λc=>if (kC j tk).all (λp=>!(gm s i.dst i.op).contains p.2 && (look c.bx p.2).isSome && !(i.dst ==Z p.2))=I then PN (ib cf mf kp is (kC j tk) c) else O:=by{simp only[ib,nM,aL,if_false];cases wR cf mf s i with|none=>{rfl}|some c=>simp only[dR];split<;>rfl};rw[g];refine Ec B h m (run:=λc=>if (kC j tk).all (λp=>!(gm s i.dst i.op).contains p.2 && (look c.bx p.2).isSome && !(i.dst ==Z p.2))=I then PN (ib cf mf kp is (kC j tk) c) else O) (λS' U c t outs C K k=>?_) e;split at k;{rename_i A;have hc:(kC j tk).all (λp=>!(gm s i.dst i.op).contains p.2 && (look c.bx p.2).isSome && !(i.dst ==Z p.2))=I:=by{rw[bG];intro p y;have T:=xt (j:=j) l p y;obtain⟨P,N⟩:=X p T;have h3:=bG.1 A p T;have h4:(look c.bx p.2).isSome=I:=by{obtain⟨V,w⟩:=cB.1 h3;obtain⟨cs,Dm,_⟩:=C.bx p.2 V w;rw[Dm];rfl};rw[P,N,h4];rfl};show Fits G t outs U (if _ then _ else _);rw[if_pos hc];exact wB B (xt l) C K k};cases k};cases e
end
def ac9{a:Type}(k:a->u (ST×M SO)):M a->M SO->u (ST×M SO)
 |[],acc=>Z (.nil,acc)
 |v::vs,acc=>match k v with
  |some (t,os)=>match pa os acc with
   |(f,d)=>match ac9 k vs d with
    |some (b,c)=>Z (.cons (OF f t) b,c)
    |none=>O
  |none=>O
def HD:Nat->Nat->M SE
 |_,0=>[]
 |c,m+1=>.v c::HD (c+1) m
def idO(o:SO):ST×M SO:=(.leaf 0 (HD 0 o.m),[o])
def M8(id:Nat)(o:SO):SO:=if o.x=Z (Z id) then {o with x:=O } else o
def zR:M SO->M SO->M SO->M Nat×M SO×M SO
 |[],b,outs=>([],b,outs)
 |o::os,b,outs=>if o.x=O then (match HV o b with
   |(j,c)=>match zR os c outs with
    |(f,r)=>(2 * j::f,r))
  else match HV o outs with
   |(j,a)=>match zR os b a with
    |(f,r)=>((2 * j+1)::f,r)
def TK(k:SS->Nat->u (ST×M SO)):Nat->Nat->M SO->M SO->u (ST×M SO×M SO)
 |0,_,_,_=>O
 |fuel+1,i,b,outs=>match nth b i with
  |none=>Z (.nil,b,outs)
  |some o=>match k o.S o.m with
   |some (t,os)=>match zR os b outs with
    |(f,d,a)=>match TK k fuel (i+1) d a with
     |some (c,r)=>Z (.cons (.map f t) c,r)
     |none=>O
   |none=>O
def agt(S:SS):SB->SB
 | .ref r=>match look S.rw r with
  |some x=>.d x.e
  |none=>.any
 | .nil k a=>.d (.k (.nil k a))
 |x=>x
def kn0:Gs:=[(.k (.bool I),I),(.k (.bool J),J)]
def pD(hint:M Nat)(g:M (Nat×kP)):K->SS->Nat->u (ST×M SO)
 | .skip,S,_=>Z (Gu O [] S)
 | .exit id,S,_=>Z (Gu (Z (Z id)) [] S)
 | .ret,S,_=>Z (Gu (Z O) [] S)
 | .Uf ops q,S,m=>Hr hint g q ops S kn0 m
 | .Zh ops q,S,m=>AT hint g q ops [] S kn0 m
 | .seq a b,S,m=>match pD hint g a S m with
  |some (n,p)=>match ac9 (λo=>if o.x=O then pD hint g b o.S o.m else Z (idO o)) p []with
   |some (l,outs)=>Z (.seq n l,outs)
   |none=>O
  |none=>O
 | .cond c a b,S,m=>match sD (gx S [] c),pD hint g a S m,pD hint g b S m with
  |some e,Z (n,p),Z (s,v)=>match pa v p with
   |(f,outs)=>Z (.gd [(e,I)] n (OF f s),outs)
  |_,_,_=>O
 | .block id a,S,m=>match pD hint g a S m with
  |some (t,outs)=>match pa (outs.map (M8 id)) []with
   |(f,h)=>Z (OF f t,h)
  |none=>O
 | .share r a,S,m=>match oY S [r]with
  |some i=>pD hint g a i m
  |none=>O
 | .DN d a,S,m=>match look S.sl d with
  |some ⟨[],.b (.ref r)⟩=>match look S.rw r with
   |some x=>pD hint g a ((S.setRow r x.share).put (Z d) ⟨[],.b (.d x.e)⟩) m
   |none=>O
  |some ⟨[],.b (.d _)⟩=>pD hint g a S m
  |some ⟨[],.b (.nil k w)⟩=>pD hint g a (S.put (Z d) ⟨[],.b (.d (.k (.nil k w)))⟩) m
  |some ⟨[],.ptr b 0⟩=>match look S.bx b with
   |some j=>match oY S (gH j) with
    |some i=>if j.all SB.cell=I then pD hint g a (i.gA b (j.map (agt S))) m else O
    |none=>O
   |none=>O
  |_=>O
 | .loop a,S,m=>match UT [] S with
  |(i,es)=>match TK (pD hint g a) 40 0 [⟨O,i,es.length⟩] []with
   |some (l,_,outs)=>Z (.loop 0 es l,outs)
   |none=>O
section
variable {ρ:M D} {S:SS} {s:St} {G:Gf} {T:Nat->u KF} {mf:Mf} {kH:M (Nat×kP)} {hint:M Nat}
theorem SU{l:Type}{k:l->u (ST×M SO)}:∀{vs:M l} {a b:M SO} {c:ST},ac9 k vs a=Z (c,b)->
  (∀i x,nth a i=Z x->nth b i=Z x)/\∀j v,nth vs j=Z v->∃t os,k v=Z (t,os)/\∀run ρ,Fits G t os ρ run->Yf G c j b ρ run
 |[],a,b,c,h=>by cases h;exact⟨λ_ _ e=>e,λj v B=>(by cases B)⟩
 |v::vs,a,b,c,h=>by simp only[ac9]at h;split at h;{rename_i t os H;generalize C:pa os a=q at h;obtain⟨f,W⟩:=q;simp only at h;split at h;{rename_i p V K;cases h;obtain⟨P,N⟩:=pL C;obtain⟨n,L⟩:=SU K;refine⟨λi x e=>n i x (N i x e),λj w m=>?_⟩;cases j with|zero=>{cases m;refine⟨t,os,H,λrun ρ g i d hd=>?_⟩;have:=g.map (f:=f) (outs':=b) (λi o F=>by obtain⟨j,A,y⟩:=P i o F;exact⟨j,A,n j o y⟩);exact this i d hd}|succ j=>obtain⟨r,U,R,Q⟩:=L j w m;exact⟨r,U,R,λrun ρ g i d hd=>Q run ρ g i d hd⟩};cases h};cases h
theorem Py:∀{σ σ0:M D},jk (σ0++σ) (HD σ0.length σ.length)=Z σ
 |[],_=>rfl
 |x::σ,σ0=>by have c:SE.d (σ0++x::σ) (.v σ0.length)=Z x:=kt σ0 x σ;have a:=Py (σ:=σ) (σ0:=σ0++[x]);rw[az,bh]at a;simp only[aN,HD,jk,c];have b:jk (σ0++x::σ) (HD (σ0.length+1) σ.length)=Z σ:=a;rw[b];rfl
theorem ahb{o:SO}(a:ρ.length=o.m)(h:Rel ρ o.S s):Fits G (idO o).1 (idO o).2 ρ (Z (Va o.x,s)):=by intro j σ hd;simp only[idO,eY]at hd;have:=Py (σ:=ρ) (σ0:=[]);simp only[av,aK,a]at this;rw[this]at hd;cases hd;exact⟨o,s,rfl,rfl,a,h⟩
theorem Ks:∀{os e outs:M SO} {f:M Nat} {g a:M SO},zR os e outs=(f,g,a)->
  (∀i x,nth e i=Z x->nth g i=Z x)/\(∀i x,nth outs i=Z x->nth a i=Z x)/\
  ∀i o,nth os i=Z o->∃c,nth f i=Z c/\if o.x=O then (∃j,c=2 * j/\nth g j=Z o) else ∃j,c=2 * j+1/\nth a j=Z o
 |[],e,outs,f,g,a,h=>by cases h;exact⟨λ_ _ h=>h,λ_ _ h=>h,λi o B=>(by cases B)⟩
 |o::os,e,outs,f,g,a,h=>by simp only[zR]at h;split at h;{rename_i b;generalize r:HV o e=q at h;obtain⟨j,F⟩:=q;simp only at h;generalize d:zR os F outs=q at h;obtain⟨C,n,A⟩:=q;cases h;obtain⟨w,v⟩:=DF o r;obtain⟨m,l,t⟩:=Ks d;refine⟨λi x b=>m i x (v i x b),l,λi p k=>?_⟩;cases i with|zero=>{cases k;exact⟨2 * j,rfl,by rw[if_pos b];exact⟨j,rfl,m j _ w⟩⟩}|succ i=>exact t i p k};rename_i b;generalize r:HV o outs=q at h;obtain⟨j,y⟩:=q;simp only at h;generalize d:zR os e y=q at h;obtain⟨C,n,A⟩:=q;cases h;obtain⟨w,v⟩:=DF o r;obtain⟨m,l,t⟩:=Ks d;refine⟨m,λi x b=>l i x (v i x b),λi p k=>?_⟩;cases i with|zero=>{cases k;exact⟨2 * j+1,rfl,by rw[if_neg b];exact⟨j,rfl,l j _ w⟩⟩}|succ i=>exact t i p k
theorem OE{k:SS->Nat->u (ST×M SO)}:∀{d i:Nat} {g outs H a:M SO} {n:ST},TK k d i g outs=Z (n,H,a)->
  (∀j x,nth g j=Z x->nth H j=Z x)/\(∀j x,nth outs j=Z x->nth a j=Z x)/\
  ∀j o,nth H (i+j)=Z o->∃t os f,k o.S o.m=Z (t,os)/\(∀ρ,eY G n j ρ=eY G (.map f t) 0 ρ)/\∀l b,nth os l=Z b->∃c,nth f l=Z c/\if b.x=O then (∃j,c=2 * j/\nth H j=Z b) else ∃j,c=2 * j+1/\nth a j=Z b
 |0,_,_,_,_,_,_,h=>by cases h
 |d+1,i,g,outs,H,a,n,h=>by simp only[TK]at h;split at h;{rename_i Y;cases h;refine⟨λ_ _ h=>h,λ_ _ h=>h,λj o C=>?_⟩;exfalso;have L:=Cp C;have K:∀{l:M SO} {i:Nat},nth l i=O->l.length<=i:=by{intro l;induction l with|nil=>{intro i _;exact bK _}|cons x l V=>intro i N;cases i with|zero=>{cases N}|succ i=>have:=V (i:=i) N;simp only[aN];omega};have:=K Y;omega};rename_i o C;split at h;{rename_i t os hk;generalize X:zR os g outs=q at h;obtain⟨f,sC,A⟩:=q;simp only at h;split at h;{rename_i Q r W;obtain⟨H',O'⟩:=r;cases h;obtain⟨L,K,h3⟩:=Ks X;obtain⟨F,P,h6⟩:=OE W;refine⟨λj x e=>F j x (L j x e),λj x e=>P j x (K j x e),λj p B=>?_⟩;cases j with|zero=>{rw[dG,F i o (L i o C)]at B;cases B;refine⟨t,os,f,hk,λρ=>rfl,λl b hl=>?_⟩;obtain⟨c,U,y⟩:=h3 l b hl;refine⟨c,U,?_⟩;split at y;{rename_i e;rw[if_pos e];obtain⟨j,w,v⟩:=y;exact⟨j,w,F j b v⟩};rename_i e;rw[if_neg e];obtain⟨j,w,v⟩:=y;exact⟨j,w,P j b v⟩}|succ j=>obtain⟨R,PS,f',g1,g2,g3⟩:=h6 j p (by rw[gC,Nat.add_comm 1 j];exact B);exact⟨R,PS,f',g1,λρ=>g2 ρ,g3⟩};cases h};cases h
theorem acp{g:St->u (Ex×St)}{x:SX}{s:St}(h:x≠O):Pq g (Z (Va x,s))=Z (Va x,s):=by cases x with|none=>{exact absurd rfl h}|some y=>cases y<;>rfl
theorem akb{id:Nat}{o:SO}{s:St}:blk id (Z (Va o.x,s))=Z (Va (M8 id o).x,s):=by unfold M8;split;{rename_i h;rw[h];simp[Va,blk]};rename_i h;rcases a:o.x with _|_|i;{rfl};{rfl};(have:i≠id:=by rintro rfl;exact h a);simp[Va,blk,this]
theorem OL{a β:Type}(f:a->β):∀{l:M a} {i:Nat} {x:a},nth l i=Z x->nth (l.map f) i=Z (f x)
 |_::_,0,_,h=>by cases h;rfl
 |_::l,i+1,_,h=>OL f (l:=l) h
 |[],_,_,h=>by cases h
theorem He:∀{c:M Nat} {S d:SS},oY S c=Z d->∀r∈c,∃x y,look S.rw r=Z x/\look d.rw r=Z y
 |[],_,_,_,r,e=>by cases e
 |q::c,S,d,h,r,e=>by simp only[oY]at h;split at h;{rename_i x k;have ez:∀{c:M Nat} {S d:SS} {r:Nat} {y:SR},oY S c=Z d->look S.rw r=Z y->∃b,look d.rw r=Z b:=by{intro c;induction c with|nil=>{intro S d r y h g;cases h;exact⟨y,g⟩}|cons a c i=>intro S d r y h g;simp only[oY]at h;split at h;{rename_i b j;by_cases f:a=r;{exact i h (y:=b.share) (by simp[SS.setRow,look,f])};exact i h (y:=y) (by simp only[SS.setRow,look,if_neg f,fO];exact g)};cases h};rcases aU.1 e with rfl|e;{obtain⟨b,j⟩:=ez h (r:=r) (y:=x.share) (by simp[SS.setRow,look]);exact⟨x,b,k,j⟩};obtain⟨n,y,m,l⟩:=He h r e;by_cases f:q=r;{exact⟨x,y,f▸k,l⟩};simp only[SS.setRow,look,if_neg f,fO]at m;exact⟨n,y,m,l⟩};cases h
theorem Sv(h:Rel ρ S s):∀{f:M SB} {i:M C},(∀r∈gH f,∃x,look S.rw r=Z x)->eR ρ f i->eR ρ (f.map (agt S)) (i.map (Qi s))
 |[],_,_,l=>by simp only[eR]at l;subst l;rfl
 |x::f,_,m,⟨c,i,o,b,n⟩=>by subst o;refine⟨_,_,rfl,?_,Sv h (λr q=>m r (by cases x<;>simp_all[gH])) n⟩;cases x with|ref r=>{obtain⟨y,j⟩:=m r (by simp[gH]);obtain⟨a,g,es,p,rfl⟩:=h.rw r y j;simp only[lb]at b;subst b;simp only[agt,j,Qi,g];exact⟨_,p,rfl⟩}|d e=>{obtain⟨y,g,rfl⟩:=b;exact⟨y,g,rfl⟩}|nil k t=>{simp only[lb]at b;subst b;exact⟨_,rfl,rfl⟩}|any=>trivial
theorem mO(F:Gok (fK T) kH G):∀(k:K) {S:SS} {ρ:M D} {s:St} {t:ST} {outs:M SO},Rel ρ S s->pD hint kH k S ρ.length=Z (t,outs)->Fits G t outs ρ (ev T mf k s)
 | .skip,S,ρ,s,t,outs,h,n=>by simp only[pD,ao]at n;rw[SP];exact v8 h rfl n
 | .exit id,S,ρ,s,t,outs,h,n=>by simp only[pD,ao]at n;rw[SN];exact v8 h rfl n
 | .ret,S,ρ,s,t,outs,h,n=>by simp only[pD,ao]at n;rw[ZM];exact v8 h rfl n
 | .Uf ops kp,S,ρ,s,t,outs,h,n=>by simp only[pD]at n;rw[ZL];exact JX F h rfl n
 | .Zh ops kp,S,ρ,s,t,outs,h,n=>by simp only[pD]at n;rw[ZK];exact wB F (λ_ hp=>hp) h rfl n
 | .seq a b,S,ρ,s,t,outs,h,n=>by simp only[pD]at n;split at n;{rename_i ta oa hA;split at n;{rename_i ts P hf;cases n;have Q:=mO F a h hA;obtain⟨_,W⟩:=SU (G:=G) hf;intro j σ hd;simp only[eY]at hd;split at hd;{rename_i j0 R h0;obtain⟨o,C,g1,g2,g3,g4⟩:=Q j0 R h0;obtain⟨t',PS,g5,g6⟩:=W j0 o g1;rw[ZN,g2];split at g5;{rename_i L;rw[<- g3]at g5;have hfb:=mO F b g4 g5;rw[L];exact g6 _ R hfb j σ hd};rename_i L;simp only[ao]at g5;have hi:=ahb (G:=G) g3 g4;rw[g5]at hi;rw[acp L];exact g6 _ R hi j σ hd};cases hd};cases n};cases n
 | .cond c a b,S,ρ,s,t,outs,h,n=>by simp only[pD]at n;split at n;{rename_i e ta oa tb ob hc hA hB;generalize hq:pa ob oa=q at n;obtain⟨f,P⟩:=q;cases n;obtain⟨q1,q2⟩:=pL hq;obtain⟨y,V,X⟩:=mc h (gs:=[]) rfl hc;rw[KB,X];refine S_ (λhg=>?_) λhg=>?_;{have:=nX hg (e,I) (by simp);simp only[V,ao]at this;subst this;exact (mO F a h hA).more q2};obtain⟨p,hp,he⟩:=E_ hg;simp only[bO]at hp;subst hp;simp only[V,ao]at he;subst he;exact (mO F b h hB).map q1};cases n
 | .block id a,S,ρ,s,t,outs,h,n=>by simp only[pD]at n;split at n;{rename_i t' afX hA;generalize hq:pa (afX.map (M8 id)) []=q at n;obtain⟨f,P⟩:=q;cases n;obtain⟨q1,_⟩:=pL hq;have Q:=mO F a h hA;rw[NJ];refine Fits.map (outs:=afX.map (M8 id)) ?_ q1;intro j σ hd;obtain⟨o,C,g1,g2,g3,g4⟩:=Q j σ hd;refine⟨M8 id o,C,OL _ g1,by rw[g2,akb],?_,?_⟩;{rw[g3];unfold M8;split<;>rfl};unfold M8;split<;>exact g4};cases n
 | .share r a,S,ρ,s,t,outs,h,n=>by simp only[pD]at n;split at n;{rename_i S' hS;rw[NK];exact mO F a (pJ h hS) n};cases n
 | .DN d a,S,ρ,s,t,outs,h,n=>by simp only[pD]at n;rw[ZJ];have U:∀{c:SC},look S.sl d=Z ⟨[],c⟩->lf ρ c (s.get d):=λA=>by{obtain⟨b,Y,W,_⟩:=h.sl d _ A;cases Y;exact W rfl};split at n;{rename_i r A;have N:=U A;simp only[lf,lb]at N;split at n;{rename_i x L;obtain⟨y,Y,es,W,rfl⟩:=h.rw r x L;(have hd:sI s d=Z ((eM s [r]).put (Z d) (.d (.list x.k x.fl es))):=by simp only[sI,N,Y]);rw[hd,dR];refine mO F a (Rel.put ?_ _ (tF.nil (c:=.b (.d x.e)) ⟨_,W,rfl⟩)) n;have:=pJ (rs:=[r]) (S':=S.setRow r x.share) h (by simp[oY,L]);exact this};cases n};{rename_i e A;obtain⟨y,_,N⟩:=U A;(have hd:sI s d=Z s:=by simp only[sI,N]);rw[hd,dR];exact mO F a h n};{rename_i k fl A;have N:=U A;simp only[lf,lb]at N;(have hd:sI s d=Z (s.put (Z d) (.d (.list k fl []))):=by simp only[sI,N]);rw[hd,dR];exact mO F a (h.put _ (tF.nil (c:=.b (.d (.k (.nil k fl)))) ⟨_,rfl,rfl⟩)) n};{rename_i b A;have N:=U A;simp only[lf]at N;split at n;{rename_i xs L;split at n;{rename_i S' hS;split at n;{rename_i hc;obtain⟨cs,Y,W⟩:=h.bx b xs L;have rU:=mM W hc;(have hd:sI s d=Z ((eM s (rowsOf cs)).gA b (cs.map (Qi s))):=by simp only[sI,N,Y]);rw[hd,dR,rU];refine mO F a (Rel.gA (pJ h hS) b ?_) n;exact Sv h (λr hm=>by obtain⟨x,_,g,_⟩:=He hS r hm;exact⟨x,g⟩) W};cases n};cases n};cases n};cases n
 | .loop a,S,ρ,s,t,outs,h,n=>by simp only[pD]at n;generalize hq:UT [] S=q at n;obtain⟨S',es⟩:=q;simp only at n;split at n;{rename_i ts H i hL;cases n;obtain⟨Y,_,h3⟩:=OE (G:=G) hL;intro j σ hd;simp only[eY]at hd;split at hd;{rename_i R h0;have nR:=QC hd;have step:∀{p:Nat×M D} {sg:Sg (Nat×M D) (Nat×M D)} {o:SO} {s:St},E8 (eY G ts p.1 p.2)=Z sg->nth H p.1=Z o->p.2.length=o.m->Rel p.2 o.S s-> ∃w C j v,ev T mf a s=Z (Va w.x,C)/\v.length=w.m/\Rel v w.S C/\((w.x=O/\sg=.go (j,v)/\nth H j=Z w)\/(w.x≠O/\sg=.out (j,v)/\nth outs j=Z w)):=by{intro p sg o s B ho A hR;obtain⟨t,os,f,g1,g2,g3⟩:=h3 p.1 o (by rw[bF];exact ho);rw[g2]at B;simp only[eY]at B;rw[<- A]at g1;have Q:=mO F a hR g1;split at B;{rename_i l v h0;obtain⟨w,C,V,X,w3,w4⟩:=Q l v h0;obtain⟨c,q1,q2⟩:=g3 l w V;rw[q1]at B;simp only[aX,E8,ao]at B;refine⟨w,C,c / 2,v,X,w3,w4,?_⟩;split at q2;{rename_i L;obtain⟨j,rfl,q3⟩:=q2;rw[if_pos (by omega)]at B;(have e:2 * j / 2=j:=by omega);exact .inl ⟨L,B.symm,by rw[e];exact q3⟩};rename_i L;obtain⟨j,rfl,q3⟩:=q2;rw[if_neg (by omega)]at B;(have e:(2 * j+1) / 2=j:=by omega);exact .inr ⟨L,B.symm,by rw[e];exact q3⟩};cases B};have main:∀{p r:Nat×M D},Be (λp=>E8 (eY G ts p.1 p.2)) p r->∀{o:SO} {s:St},nth H p.1=Z o->p.2.length=o.m->Rel p.2 o.S s->∃w C,nth outs r.1=Z w/\ev T mf (.loop a) s=Z (Va w.x,C)/\r.2.length=w.m/\Rel r.2 w.S C:=by{intro p r N;induction N with|out B=>{intro o s ho A hR;obtain⟨w,C,j,v,V,X,w3,w4⟩:=step B ho A hR;rcases w4 with ⟨_,w5,_⟩|⟨w5,w6,w7⟩;{cases w5};cases w6;exact⟨w,C,w7,by rw[lk,V,acp w5],X,w3⟩}|go B MM ih=>intro o s ho A hR;obtain⟨w,C,j,v,V,X,w3,w4⟩:=step B ho A hR;rcases w4 with ⟨w5,w6,w7⟩|⟨_,w6,_⟩;{cases w6;obtain⟨o2,s2,v1,v2,v3⟩:=ih w7 X w3;refine⟨o2,s2,v1,?_,v3⟩;rw[lk,V,w5];exact v2};cases w6};exact main nR (Y 0 _ rfl) (lj h0) (So h rfl hq h0)};cases hd};cases n
end
def yl:Nat->M SA->Nat->SS->u SS
 |_,[],_,S=>Z S
 |p,.val d l::as,c,S=>match Oq p 0 l c S with
  |(xs,a)=>if d=I then yl (p+1) as (c+l.length) (a.put (Z p) ⟨[],.agg xs⟩) else match xs with
   |[x]=>yl (p+1) as (c+l.length) (a.put (Z p) ⟨[],.b x⟩)
   |_=>O
 |p,.box l::as,c,S=>match Oq (p+1400) 0 l c S with
  |(xs,a)=>yl (p+1) as (c+l.length) ((a.j8 (900+p) xs).put (Z p) ⟨[],.ptr (900+p) 0⟩)
def wrA(S:SS)(b:Bool)(a:M SB):u (SA×M SE×M Nat):=
 match gN (wrS S) a with
 |some l=>Z (.val b (l.map (·.1)),l.map (·.2),gH a)
 |none=>O
def Uh(S:SS):KR->u (SA×M SE×M Nat)
 | .t d=>match look S.sl d with
  |some ⟨[],c⟩=>match c.cells with
   |some a=>wrA S c.isAgg a
   |none=>O
  |_=>O
 | .b _=>O
 | .c d n=>match look S.sl d with
  |some ⟨[],.ptr b 0⟩=>match look S.bx b with
   |some a=>if n=0 then (match a with
     |[x]=>wrA S J [x]
     |_=>O) else if a.length=n then wrA S I a else O
   |none=>O
  |_=>O
def Mb(S:SS):M KR->u (M SA×M SE×M Nat)
 |[]=>Z ([],[],[])
 |r::rs=>match Uh S r,Mb S rs with
  |some (a,es,l),Z (as,fs,b)=>Z (a::as,es++fs,l++b)
  |_,_=>O
def Cu(S:SS):Nat->M SA->u (M SA×M SE×M Nat)
 |_,[]=>Z ([],[],[])
 |p,.val _ _::as=>Cu S (p+1) as
 |p,.box _::as=>match look S.bx (900+p) with
  |some a=>match gN (wrS S) a,Cu S (p+1) as with
   |some l,Z (c,fs,b)=>Z (.box (l.map (·.1))::c,l.map (·.2)++fs,gH a++b)
   |_,_=>O
  |none=>O
def idxOf{a:Type}[DecidableEq a](x:a):M a->u Nat
 |[]=>O
 |y::l=>if y=x then Z 0 else (idxOf x l).map (·+1)
def LL(a:M KR)(e:kP)(S:SS):u ST:=
 match a with
 |[.b d]=>if e.args.all SA.isVal=I then (match look S.sl d with
  |some ⟨[],.ptr b 0⟩=>match look S.bx b with
   |some c=>match gN (wrS S) c with
    |some l=>if k8 (gH c)=I then (match idxOf ([SA.box (l.map (·.1))],[]) e.res with
     |some j=>Z (.leaf j (l.map (·.2)))
     |none=>O) else O
    |none=>O
   |none=>O
  |_=>O) else O
 |_=>O
def LM(b:KF)(a:kP)(o:SO):u ST:=
 if o.x=O\/o.x=Z O then
  match Mb o.S b.res,Cu o.S 0 a.args with
  |some (rs,es,l),Z (os,fs,c)=>if k8 (l++c)=I then (match idxOf (rs,os) a.res with
   |some j=>Z (.leaf j (es++fs))
   |none=>O) else O
  |_,_=>LL b.res a o.S
 else O
def D2(b:KF)(a:kP):M SO->u ST
 |[]=>Z .nil
 |o::os=>match LM b a o,D2 b a os with
  |some t,Z c=>Z (.cons t c)
  |_,_=>O
def ab4(hint:M Nat)(d:M (Nat×kP))(b:KF)(a:kP):u ST:=
 match yl 0 a.args 0 ⟨[],[],[]⟩ with
 |some S=>match pD hint d b.body S (xB a.args) with
  |some (t,outs)=>match D2 b a outs with
   |some c=>Z (.seq t c)
   |none=>O
  |none=>O
 |none=>O
section
variable {ρ:M D} {S:SS} {s:St}
theorem wP:∀{l:M SA} {p c:Nat} {S j:SS} {s:St} {e:M D} {as:M A},Rel ρ S s->gU l e=Z as->Loc ρ c e->yl p l c S=Z j->Rel ρ j (lU p as s)
 |[],p,c,S,j,s,e,as,h,g,f,d=>by cases e with|nil=>{cases g;cases d;exact h}|cons a e=>cases g
 | .val N l::as,p,c,S,j,s,e,rs,h,g,f,d=>by obtain⟨r,H,i,n,rfl⟩:=iy g;simp only[mA]at i;obtain⟨vs,v,rfl⟩:=ay.1 i;simp only[yl]at d;generalize t:Oq p 0 l c S=q at d;obtain⟨x,G⟩:=q;simp only at d;obtain⟨y,C,o,m,k⟩:=yx h v (f.take _) t;simp only[lU,Bu,o];split at d;{rename_i w;rw[if_pos w];exact wP (m.put (Z p) (tF.nil (c:=.agg x) ⟨y,rfl,k⟩)) n (f.drop _) d};rename_i w;rw[if_neg w];split at d;{obtain⟨L,F,rfl,B,K⟩:=k;exact wP (m.put (Z p) (tF.nil (c:=.b _) B)) n (f.drop _) d};cases d
 | .box l::as,p,c,S,j,s,e,rs,h,g,f,d=>by obtain⟨r,H,i,n,rfl⟩:=iy g;simp only[mA]at i;obtain⟨vs,v,rfl⟩:=ay.1 i;simp only[yl]at d;generalize t:Oq (p+1400) 0 l c S=q at d;obtain⟨x,G⟩:=q;simp only at d;obtain⟨y,C,o,m,k⟩:=yx h v (f.take _) t;simp only[lU,Bu,o];exact wP ((m.j8 (900+p) k).put (Z p) tF.ptr) n (f.drop _) d
theorem R8(h:Rel ρ S s){e:M SB}{vs:M C}{j:Bool}{a:SA}{es:M SE}{l:M Nat}(f:eR ρ e vs)(c:wrA S j e=Z (a,es,l)) :
  ∃d b,jk ρ es=Z d/\gN (j_ s) vs=Z b/\mA a d=Z (.val j b)/\d.length=a.n/\rowsOf vs=l:=by unfold wrA at c;split at c;{rename_i o g;cases c;obtain⟨ys,b,m,k,i⟩:=A4 h f g;exact⟨ys,b,m,k,by simp only[mA,i,aX],na i,mM f (qh (p:=SB.cell) (λ_ _=>wF) g)⟩};cases c
theorem acJ{b:M SB}{d:Bool}{r:SA×M SE×M Nat}(a:wrA S d b=Z r):b.all SB.cell=I:=by unfold wrA at a;split at a;{rename_i e c;exact qh (p:=SB.cell) (λ_ _=>wF) c};cases a
theorem agj{c:SC}{v:C}{a:M SB}(d:lf ρ c v)(e:c.cells=Z a)(f:a.all SB.cell=I):v.isAgg=c.isAgg:=by cases c with|b x=>{cases e;have:=lb.cell d (by simpa using f);cases v<;>first|rfl|cases this}|agg ys=>{obtain⟨g,rfl,_⟩:=d;rfl}|_=>cases e
theorem abJ(h:Rel ρ S s){r:KR}{a:SA}{es:M SE}{l:M Nat}(e:Uh S r=Z (a,es,l)):∃f x,G9 s r=Z (x,l)/\jk ρ es=Z f/\mA a f=Z x/\f.length=a.n:=by cases r with|t d=>{simp only[Uh]at e;split at e;{rename_i c w;obtain⟨b,A,y,_⟩:=h.sl d _ w;cases A;have j:=y rfl;split at e;{rename_i B H;have G:=acJ e;obtain⟨f,F,o,i,m,k,g⟩:=R8 h (j.cells H G) e;have L:=agj j H G;simp only at L i g;exact⟨f,_,by simp only[G9,i,aX,L,g],o,m,k⟩};cases e};cases e}|b d=>{cases e}|c d n=>simp only[Uh]at e;split at e;{rename_i b w;obtain⟨U,A,y,_⟩:=h.sl d _ w;cases A;have j:=y rfl;simp only[lf]at j;split at e;{rename_i B N;obtain⟨R,K,q⟩:=h.bx _ B N;split at e;{rename_i v;split at e;{rename_i x;obtain⟨f,F,o,i,m,k,g⟩:=R8 h q e;obtain⟨T,P,rfl,Q,C⟩:=q;simp only[eR]at C;subst C;exact⟨f,_,by simp only[G9,j,K,v,if_true,i,aX,g],o,m,k⟩};cases e};rename_i v;split at e;{rename_i p;obtain⟨f,F,o,i,m,k,g⟩:=R8 h q e;exact⟨f,_,by simp only[G9,j,K,if_neg v];rw[if_pos (by rw[q.len,p]),i];simp only[aX,g],o,m,k⟩};cases e};cases e};cases e
theorem Br:∀{a:SA} {as:M SA} {ws us:M D} {x:A} {rs:M A},mA a ws=Z x->ws.length=a.n->gU as us=Z rs->gU (a::as) (ws++us)=Z (x::rs):=by intro a as ws us x rs d b c;simp only[gU,take_left' b,drop_left' b,d,c,aX]
theorem JN(h:Rel ρ S s):∀{e:M KR} {as:M SA} {es:M SE} {l:M Nat},Mb S e=Z (as,es,l)->∃d c,yb s e=Z (c,l)/\jk ρ es=Z d/\gU as d=Z c
 |[],_,_,_,b=>by cases b;exact⟨[],[],rfl,rfl,rfl⟩
 |r::e,as,es,l,b=>by simp only[Mb]at b;split at b;{rename_i a w v y fs t q p;cases b;obtain⟨d,x,o,n,m,k⟩:=abJ h q;obtain⟨j,c,i,g,f⟩:=JN h p;exact⟨d++j,x::c,by simp only[yb,o,i,aX],qY n g,Br m k f⟩};cases b
theorem Cv(h:Rel ρ S s):∀{args:M SA} {as:M A} {e:M D} {p:Nat} {i:M SA} {es:M SE} {l:M Nat},gU args e=Z as->Cu S p args=Z (i,es,l)->∃d c,wo s p as=Z (c,l)/\jk ρ es=Z d/\gU i d=Z c
 |[],as,e,p,i,es,l,f,b=>by cases e with|nil=>{cases f;cases b;exact⟨[],[],rfl,rfl,rfl⟩}|cons a e=>cases f
 | .val T C::args,as,e,p,i,es,l,f,b=>by obtain⟨r,N,g,n,rfl⟩:=iy f;simp only[mA]at g;obtain⟨vs,H,rfl⟩:=ay.1 g;simp only[Cu]at b;obtain⟨d,c,m,k,j⟩:=Cv h n b;exact⟨d,c,by simp only[wo,Xe,m,aX,av],k,j⟩
 | .box C::args,as,e,p,i,es,l,f,b=>by obtain⟨r,N,g,n,rfl⟩:=iy f;simp only[mA]at g;obtain⟨vs,H,rfl⟩:=ay.1 g;simp only[Cu]at b;split at b;{rename_i c G;split at b;{rename_i P L fs Q t F;cases b;obtain⟨R,K,v⟩:=h.bx _ c G;obtain⟨ys,x,B,y,q⟩:=A4 h v t;obtain⟨d,w,m,k,j⟩:=Cv h n F;have o:=mM v (qh (p:=SB.cell) (λ_ _=>wF) t);refine⟨ys++d,.box x::w,?_,qY B k,Br (by simp only[mA,q,aX]) (na q) j⟩;simp only[wo,Xe,K,y,m,aX,o,ax,av]};cases b};cases b
theorem Ft{a:Type}[DecidableEq a]{x:a}:∀{l:M a} {j:Nat},idxOf x l=Z j->nth l j=Z x
 |[],_,h=>by cases h
 |y::l,j,h=>by simp only[idxOf]at h;split at h;{rename_i b;cases h;rw[b];rfl};obtain⟨d,c,rfl⟩:=ay.1 h;exact Ft (l:=l) c
theorem Ny{v:M SA×M SA}{a us:M D}{b os:M A}(d:gU v.1 a=Z b)(e:gU v.2 us=Z os):u6 v (a++us)=Z (b,os):=by have c:=pF d;simp only[u6,take_left' c,drop_left' c,d,e]
theorem Q2{G:Gf}{e:M KR}{g:kP}{t:ST}{as:M A}{us:M D}(h:Rel ρ S s)(L:gU g.args us=Z as)(c:LL e g S=Z t){j:Nat}{k:M D}(hd:eY G t 0 ρ=Z (j,k)) :
  ∃d v r,e=[.b d]/\nth g.res j=Z v/\u6 v k=Z r/\yR e as s=Z r:=by unfold LL at c;split at c;{rename_i d;split at c;{rename_i F;split at c;{rename_i b B;split at c;{rename_i q N;split at c;{rename_i l o;split at c;{rename_i H;split at c;{rename_i R K;cases c;obtain⟨U,f,P,_⟩:=h.sl d _ B;cases f;have f:=P rfl;simp only[lf]at f;obtain⟨T,C,n⟩:=h.bx _ q N;obtain⟨ys,rs,y,w,m⟩:=A4 h n o;have i:=mM n (qh (p:=SB.cell) (λ_ _=>wF) o);simp only[eY,y,ao,aP]at hd;obtain⟨rfl,rfl⟩:=hd;refine⟨d,_,([.box rs],[]),rfl,Ft K,?_,?_⟩;{have Q:gU [SA.box (l.map (·.1))] ys=Z [.box rs]:=by{have:=Br (a:=SA.box (l.map (·.1))) (as:=[]) (ws:=ys) (us:=[]) (x:=.box rs) (rs:=[]) (by simp only[mA,m,aX]) (na m) rfl;simpa using this};have:=Ny (v:=([SA.box (l.map (·.1))],[])) (us:=[]) Q rfl;simpa using this};simp only[yR,EK L F,f,C,i,H,w,if_true,aX]};cases c};cases c};cases c};cases c};cases c};cases c};cases c
theorem WX{G:Gf}{c:KF}{e:kP}{o:SO}{t:ST}{as:M A}{q:M D}(h:Rel ρ o.S s)(i:gU e.args q=Z as)(a:LM c e o=Z t){j:Nat}{f:M D}(hd:eY G t 0 ρ=Z (j,f)) :
  ∃v r,nth e.res j=Z v/\u6 v f=Z r/\fin c as (Z (Va o.x,s))=Z r:=by unfold LM at a;split at a;{rename_i b;split at a;{rename_i w es l os fs T L K;split at a;{rename_i F;split at a;{rename_i U H;cases a;obtain⟨R,g,C,B,y⟩:=JN h L;obtain⟨vs,ys,p,n,m⟩:=Cv h i K;simp only[eY,qY B n,ao,aP]at hd;obtain⟨rfl,rfl⟩:=hd;refine⟨(w,os),(g,ys),Ft H,Ny y m,?_⟩;(have:leave c as s=Z (g,ys):=by simp only[leave,C,p,F,if_true]);rcases b with b|b<;>(rw[b];exact this)};cases a};cases a};obtain⟨d,v,r,k,Q,P,N⟩:=Q2 h i a hd;refine⟨v,r,Q,P,?_⟩;have:leave c as s=Z r:=by{rw[<- N,k];simp only[leave,k,yb,G9]};rcases b with b|b<;>(rw[b];exact this)};cases a
theorem Gv{G:Gf}{d:KF}{c:kP}:∀{outs:M SO} {a:ST},D2 d c outs=Z a->∀j o,nth outs j=Z o->∃t,LM d c o=Z t/\∀ρ,eY G a j ρ=eY G t 0 ρ
 |[],a,h,j,o,b=>by cases b
 |p::outs,a,h,j,o,b=>by simp only[D2]at h;split at h;{rename_i t e i g;cases h;cases j with|zero=>{cases b;exact⟨t,i,λρ=>rfl⟩}|succ j=>obtain⟨f,l,k⟩:=Gv (G:=G) g j o b;exact⟨f,l,λρ=>k ρ⟩};cases h
theorem aeV{T:Nat->u KF}{y:M (Nat×kP)}{G:Gf}(V:Gok (fK T) y G){hint:M Nat}{f:Nat}{e:KF}(P:T f=Z e)(W:e.np≠999){k:kP}(w:k.args.length=e.np){t:ST}(b:ab4 hint y e k=Z t)
  {q d:M D} {as:M A} {j:Nat} (n:gU k.args q=Z as) (hd:eY G t 0 q=Z (j,d)):∃v r,nth k.res j=Z v/\u6 v d=Z r/\fK T f as=Z r:=by have g:∀{l:M SA} {d:M D} {m:M A},gU l d=Z m->m.length=l.length:=by{intro l;induction l with|nil=>{intro d m h;cases d<;>cases h;rfl}|cons a l L=>intro d m h;obtain⟨r,G_,_,X,rfl⟩:=iy h;simp[L X]};unfold ab4 at b;split at b;{rename_i S Q;split at b;{rename_i t0 outs C;split at b;{rename_i ts U;cases b;have Y:Rel q ⟨[],[],[]⟩ ⟨[],[],[]⟩:=⟨λ_ _ h=>(by cases h),λ_ _ h=>(by cases h),λ_ _ h=>(by cases h)⟩;have R:=wP Y n (c:=0) (λi x N=>by rw[bF];exact N) Q;rw[<- pF n]at C;have BJ:=mO (mf:=zz) V e.body R C;simp only[eY]at hd;split at hd;{rename_i B p QM;obtain⟨o,s',g1,g2,g3,g4⟩:=BJ B p QM;obtain⟨t',g5,g6⟩:=Gv (G:=G) U B o g1;rw[g6]at hd;obtain⟨v,r,K,H,F⟩:=WX g4 n g5 hd;refine⟨v,r,K,H,?_⟩;rw[TJ T P W];unfold run;rw[if_pos (by rw[g n,w]),g2];exact F};cases hd};cases b};cases b};cases b
end
def Di:RV->zw×D
 | .d x=>(.d,x)
 | .row r=>(.row r.k r.fl r.deep r.app r.fz,.list r.k r.fl r.es)
def EA:A->SA×M D
 | .val a l=>(.val a (l.map λv=>(Di v).1),l.map λv=>(Di v).2)
 | .box l=>(.box (l.map λv=>(Di v).1),l.map λv=>(Di v).2)
def sJ:M A->M SA×M D
 |[]=>([],[])
 |a::as=>((EA a).1::(sJ as).1,(EA a).2++(sJ as).2)
def Qj(r:M A×M A):(M SA×M SA)×M D:=(((sJ r.1).1,(sJ r.2).1),(sJ r.1).2++(sJ r.2).2)
theorem Zr(v:RV):EJ (Di v).1 (Di v).2=Z v:=by cases v with|d x=>{rfl}|row r=>simp[Di,EJ]
theorem I2:∀(l:M RV),nT (l.map λv=>(Di v).1) (l.map λv=>(Di v).2)=Z l
 |[]=>rfl
 |v::l=>by simp only[bc,nT,Zr,I2 l,aX]
def Y1(a:A):(EA a).2.length=(EA a).1.n:=by cases a<;>simp[EA,SA.n]
def Zp(a:A):mA (EA a).1 (EA a).2=Z a:=by cases a<;>simp only[EA,mA,I2,aX]
theorem Bt:∀(as:M A),gU (sJ as).1 (sJ as).2=Z as
 |[]=>rfl
 |a::as=>by simp only[sJ];unfold gU;rw[List.take_left' (Y1 a),List.drop_left' (Y1 a),Zp,Bt as];rfl
def Zq(r:M A×M A):u6 (Qj r).1 (Qj r).2=Z r:=by have h:(sJ r.1).2.length=xB (sJ r.1).1:=pF (Bt r.1);simp only[Qj,u6,List.take_left' h,List.drop_left' h,Bt]
def Y6{v:zw}{x:D}{r:RV}(h:EJ v x=Z r):Di r=(v,x):=by unfold EJ at h;split at h;{cases h;rfl};{split at h;{rename_i a;obtain⟨rfl,rfl⟩:=a;cases h;rfl};cases h};cases h
theorem Bp:∀{l:M zw} {a:M D} {vs:M RV},nT l a=Z vs->(vs.map λv=>(Di v).1)=l/\(vs.map λv=>(Di v).2)=a
 |[],[],_,h=>by cases h;exact⟨rfl,rfl⟩
 |[],_::_,_,h=>by cases h
 |_::_,[],_,h=>by cases h
 |v::l,x::a,vs,h=>by simp only[nT]at h;split at h;{rename_i r b;obtain⟨f,e,rfl⟩:=ay.1 h;obtain⟨d,c⟩:=Bp e;simp only[bc,d,c,Y6 b];exact⟨trivial,trivial⟩};cases h
theorem Y5{a:SA}{e:M D}{r:A}(h:mA a e=Z r):EA r=(a,e):=by cases a with|val f l=>{simp only[mA]at h;obtain⟨vs,d,rfl⟩:=ay.1 h;obtain⟨c,b⟩:=Bp d;simp only[EA,c,b]}|box l=>simp only[mA]at h;obtain⟨vs,d,rfl⟩:=ay.1 h;obtain⟨c,b⟩:=Bp d;simp only[EA,c,b]
theorem Bo:∀{l:M SA} {b:M D} {c:M A},gU l b=Z c->sJ c=(l,b)
 |[],[],_,h=>by cases h;rfl
 |[],_::_,_,h=>by cases h
 |a::as,b,c,h=>by obtain⟨r,f,e,d,rfl⟩:=iy h;simp only[sJ,Y5 e,Bo d,ck]
def No{v:M SA×M SA}{a:M D}{r:M A×M A}(h:u6 v a=Z r):Qj r=(v,a):=by unfold u6 at h;split at h;{rename_i d outs c b;cases h;simp only[Qj,Bo c,Bo b,ck]};cases h
theorem Tm{a:Type}[DecidableEq a]{x:a}:∀{l:M a} {j:Nat},idxOf x l=Z j->nth l j=Z x
 |y::l,j,h=>by simp only[idxOf]at h;split at h;{rename_i b;cases h;rw[b];rfl};obtain⟨i,c,rfl⟩:=ay.1 h;exact (show nth l i=Z x from Tm c)
theorem bp{a:Type}:∀{l:M a} {i:Nat} {x:a},nth l i=Z x->x∈l
 |y::l,0,x,h=>by cases h;exact dV
 |y::l,i+1,x,h=>dO _ (bp (l:=l) h)
theorem TX{a:Type}[DecidableEq a]{x:a}:∀{l:M a} {j:Nat},l.Nodup->nth l j=Z x->idxOf x l=Z j
 |y::l,0,b,h=>by cases h;simp[idxOf]
 |y::l,j+1,b,h=>by have c:y≠x:=λe=>(cU.1 b).1 (e▸bp (l:=l) h);simp only[idxOf,if_neg c,TX (cU.1 b).2 h,aX]
noncomputable def GF(T:Nat->u KF)(c:M (Nat×kP)):Gf:=λi b=>
 match look c i with
 |some a=>match gU a.args b with
  |some as=>match YP (fK T) a.f as with
   |some r=>(idxOf (Qj r).1 a.res).map (·,(Qj r).2)
   |none=>O
  |none=>O
 |none=>O
def Ei(T:Nat->u KF)(a:M (Nat×kP)):Gok (fK T) a (GF T a):=by intro i l d g j k h;simp only[GF,d]at h;split at h;{rename_i as e;split at h;{rename_i r c;obtain⟨m,f,b⟩:=ay.1 h;simp only[aP]at b;obtain⟨rfl,rfl⟩:=b;exact⟨as,r,_,e,Tm f,Zq r,c⟩};cases h};cases h
def yf{T:Nat->u KF}{b:M (Nat×kP)}{i:Nat}{sg:kP}(g:look b i=Z sg){ws a:M D}{as:M A}{r:M A×M A}{v:M SA×M SA}{j:Nat}(k:gU sg.args ws=Z as)
  (e:fK T sg.f as=Z r) (d:u6 v a=Z r) (h:idxOf v sg.res=Z j) (c:eP sg.f 100000=I:=by rfl):GF T b i ws=Z (j,a):=by rw[jO]at c;simp only[GF,g,k,Ew c,e,No d,h,aX]
def P4{T:Nat->u KF}{c:M (Nat×kP)}{i:Nat}{sg:kP}(g:look c i=Z sg){a b:M D}{as:M A}{r:M A×M A}{v:M SA×M SA}{j:Nat}(k:gU sg.args a=Z as)
  (e:YP (fK T) sg.f as=Z r) (d:u6 v b=Z r) (h:idxOf v sg.res=Z j):GF T c i a=Z (j,b):=by simp only[GF,g,k,e,No d,h,aX]
def ajU{T:Nat->u KF}{b:M (Nat×kP)}{i:Nat}{a:kP}{hint:M Nat}{c:KF}{t:ST}(o:look b i=Z a)(p:T a.f=Z c)(h:(a.args.length ==c.np && eP c.np 999 && decide a.res.Nodup && eP a.f 100000)=I)
  (n:ab4 hint b c a=Z t) {d e:M D} {as:M A} {j:Nat} (g:gU a.args d=Z as) (hd:eY (GF T b) t 0 d=Z (j,e)):GF T b i d=Z (j,e):=by simp only[aw,beq_iff_eq,decide_eq_true_eq,jO]at h;obtain⟨⟨⟨w,x⟩,s⟩,q⟩:=h;obtain⟨v,r,m,l,k⟩:=aeV (Ei T b) p (by omega) w n g hd;exact yf o g k l (TX s m) (by rw[jO];exact q)
structure ku where
 lo:Int
 hi:Int
 deriving DecidableEq
structure lI where
 aA:Int
 ranges:List ku
 names:List ByteArray
 pattern:ByteArray
 path:ByteArray
 deriving DecidableEq
structure fL where
 au:ByteArray
 bu:ByteArray
 deriving DecidableEq
structure eb where
 au:ByteArray
 cY:List fL
 deriving DecidableEq
structure fC where
 root:Bool
 kj:Int
 steps:List eb
 deriving DecidableEq
structure cu where
 op:Int
 num:Int
 text:ByteArray
 path:fC
 ai:List cu
structure aq where
 aA:Int
 au:ByteArray
 type:lI
 cl:List ByteArray
 unique:List ByteArray
 default:ByteArray
 given:Bool
 dB:Bool
 dq:Bool
 fixed:Bool
 min:Int
 max:Int
 when:List cu
 gZ:List cu
 ai:List aq
structure aE where
 au:ByteArray
 bu:ByteArray
 ai:List aE
structure dD where
 op:Int
 text:ByteArray
 ai:List dD
def gk(s:z):M D:=[.str s]
def CS(b:Bool):M D:=[.bool b]
def lK(x:ku):M D:=[.int .i64 x.lo,.int .i64 x.hi]
abbrev aJ(l:M z):D:=.list 1 I (l.map gk)
abbrev bR(l:M Bool):D:=.list 1 I (l.map CS)
abbrev gR(l:M ku):D:=.list 2 I (l.map lK)
def dJ(x:lI):M D:=[.int .i64 x.aA,gR x.ranges,aJ x.names,.str x.pattern,.str x.path]
def gT(x:fL):M D:=[.str x.au,.str x.bu]
abbrev cS(l:M fL):D:=.list 2 I (l.map gT)
def dt(x:eb):M D:=[.str x.au,cS x.cY]
abbrev bP(l:M eb):D:=.list 2 J (l.map dt)
def bU(x:fC):M D:=[.bool x.root,.int .i64 x.kj,bP x.steps]
def cu.uT{x y:cu}(h:y∈x.ai):aF y<aF x:=by have a:=bD h;cases x;simp only[cu.mk.sizeOf_spec];dsimp only at a;omega
def bW(x:cu):M D:=[.int .i64 x.op,.int .i64 x.num,.str x.text,.bool x.path.root,.int .i64 x.path.kj,bP x.path.steps,.list 7 J (x.ai.map λy=>bW y)]
termination_by aF x
decreasing_by exact cu.uT (by assumption)
abbrev cG(l:M cu):D:=.list 7 J (l.map bW)
def aT(x:cu):bW x=[.int .i64 x.op,.int .i64 x.num,.str x.text,.bool x.path.root,.int .i64 x.path.kj,bP x.path.steps,cG x.ai]:=by rw[bW]
def aq.uT{x y:aq}(h:y∈x.ai):aF y<aF x:=by have a:=bD h;cases x;simp only[aq.mk.sizeOf_spec];dsimp only at a;omega
def aC(x:aq):M D:=[.int .i64 x.aA,.str x.au,.int .i64 x.type.aA,gR x.type.ranges,aJ x.type.names,.str x.type.pattern,.str x.type.path,aJ x.cl,aJ x.unique,.str x.default,.bool x.given,.bool x.dB,.bool x.dq,.bool x.fixed,.int .i64 x.min,.int .i64 x.max,cG x.when,cG x.gZ,.list 19 J (x.ai.map λy=>aC y)]
termination_by aF x
decreasing_by exact aq.uT (by assumption)
abbrev aD(l:M aq):D:=.list 19 J (l.map aC)
def ak(x:aq):aC x=[.int .i64 x.aA,.str x.au,.int .i64 x.type.aA,gR x.type.ranges,aJ x.type.names,.str x.type.pattern,.str x.type.path,aJ x.cl,aJ x.unique,.str x.default,.bool x.given,.bool x.dB,.bool x.dq,.bool x.fixed,.int .i64 x.min,.int .i64 x.max,cG x.when,cG x.gZ,aD x.ai]:=by rw[aC]
def aE.uT{x y:aE}(h:y∈x.ai):aF y<aF x:=by have a:=bD h;cases x;simp only[aE.mk.sizeOf_spec];dsimp only at a;omega
def bl(x:aE):M D:=[.str x.au,.str x.bu,.list 3 J (x.ai.map λy=>bl y)]
termination_by aF x
decreasing_by exact aE.uT (by assumption)
abbrev aB(l:M aE):D:=.list 3 J (l.map bl)
def aR(x:aE):bl x=[.str x.au,.str x.bu,aB x.ai]:=by rw[bl]
def dD.uT{x y:dD}(h:y∈x.ai):aF y<aF x:=by have a:=bD h;cases x;simp only[dD.mk.sizeOf_spec];dsimp only at a;omega
def jy(x:dD):M D:=[.int .i64 x.op,.str x.text,.list 3 J (x.ai.map λy=>jy y)]
termination_by aF x
decreasing_by exact dD.uT (by assumption)
abbrev cQ(l:M dD):D:=.list 3 J (l.map jy)
def bk(x:dD):jy x=[.int .i64 x.op,.str x.text,cQ x.ai]:=by rw[jy]
theorem Us{a:Type}(f:a->M D):∀{b:M a} {x:a},x∈b->eu (f x)<=qN (b.map f)
 |[],_,h=>by simp at h
 |y::ys,x,h=>by simp -implicitDefEqProofs only [bc,qN];rcases aU.1 h with rfl|h;{omega};have:=Us f h;omega
abbrev bQ{a:Type}(f:a->M D)(l:M a):Nat:=l.length+qN (l.map f)
def cy{b:Type}(f:b->M D){l:M b}{x:b}(h:x∈l):eu (f x)<bQ f l:=by have d:=Us f h;(have c:0<l.length:=by cases l with|nil=>cases h|cons a l=>simp);simp only[bQ];omega
def fX{a:Type}(f:a->M D)(x:a)(l:M a):bQ f (x::l)=eu (f x)+bQ f l+1:=by simp only[bQ,aN,bc,qN];omega
def kM{a:Type}(f:a->M D)(l m:M a):bQ f (l++m)=bQ f l+bQ f m:=by simp only[bQ,az,cC,zi];omega
def aci{a:Type}(f:a->M D)(l:M a)(i:Nat):bQ f (l.take i)<=bQ f l:=by have:=kM f (l.take i) (l.drop i);rw[ck]at this;omega
def Ut(l:M z){s:z}(h:s∈l):s.size<bQ gk l:=by have:=cy gk h;simp only[gk,eu,D.sz]at this;omega
def oM(x:lI):eu (dJ x)=bQ lK x.ranges+bQ gk x.names+x.pattern.size+x.path.size:=by simp only[dJ,eu,D.sz,aj,bQ];omega
def Hv(x:fL):eu (gT x)=x.au.size+x.bu.size:=by simp only[gT,eu,D.sz];omega
def nN(x:eb):eu (dt x)=x.au.size+bQ gT x.cY:=by simp only[dt,eu,D.sz,aj,bQ];omega
def jV(x:fC):eu (bU x)=bQ dt x.steps:=by simp only[bU,eu,D.sz,aj,bQ];omega
def jE(x:cu):eu (bW x)=x.text.size+eu (bU x.path)+bQ bW x.ai:=by simp only[aT,bU,eu,D.sz,aj,bQ];omega
def cp(x:aq):eu (aC x)=x.au.size+eu (dJ x.type)+bQ gk x.cl+bQ gk x.unique+x.default.size+bQ bW x.when+bQ bW x.gZ+bQ aC x.ai:=by simp only[ak,dJ,eu,D.sz,aj,bQ];omega
def eF(x:aE):eu (bl x)=x.au.size+x.bu.size+bQ bl x.ai:=by simp only[aR,eu,D.sz,aj,bQ];omega
def Bm(i:Nat):Nat->Nat->M SE
 |_,0=>[]
 |j,n+1=>.c i j::Bm i (j+1) n
abbrev Y(i:Nat):SE:=.v i
abbrev N(n:Int):SE:=.k (.int .i64 n)
abbrev U(n:Int):SE:=.k (.int .u8 n)
abbrev B(b:Bool):SE:=.k (.bool b)
abbrev L(k:Nat)(a:Bool):SE:=.k (.nil k a)
abbrev X(i j:Nat):SE:=.c i j
abbrev o_(o:PO)(es:M SE)(t:ST):ST:=.op [] o es t
abbrev p_(a:Gs)(t:ST):ST:=.op a .pl [] t
abbrev c1(t:ST):ST:=.cons t .nil
abbrev r_(i n:Nat):M SE:=HD i n
abbrev f_(i:Nat)(o:PO)(es:M SE)(t:ST):ST:=.op [(.v i,J)] o es t
abbrev d_(i:Nat)(a b:ST):ST:=.gd [(.v i,I)] a b
abbrev e_(i:Nat)(a b:ST):ST:=.gd [(.v i,J)] a b
abbrev L_(es:M SE):ST:=.leaf 0 es
abbrev M1(t:ST):ST:=.map [1] t
abbrev b_(a b:ST):ST:=.seq a (.cons b .nil)
abbrev k_(a b:ST):ST:=.cons a b
abbrev h_(a b:ST):ST:=.seq a b
abbrev X4(i j:Nat)(t:ST):ST:=.op [] .ite [.v i,.k (.bool I),.v j] t
abbrev Xi(i:Nat)(t:ST):ST:=.op [(.v i,J)] .pl [] t
abbrev z_(t:ST):ST:=.seq t (.cons (.leaf 0 [.v 0]) .nil)
abbrev c_(i:Nat)(es:M SE)(t:ST):ST:=.call i es (.cons t .nil)
abbrev xs_(i j n:Nat):M SE:=Bm i j n
abbrev E2:PO:=.bin .eql
abbrev N2:PO:=.bin .neq
abbrev L2:PO:=.bin .lss
abbrev G2:PO:=.bin .gtr
abbrev H2:PO:=.bin .geq
abbrev A2:PO:=.bin .add
abbrev S2:PO:=.bin .sub
abbrev zI(n:Int):SK:=.int .i64 n
abbrev zB(b:Bool):SK:=.bool b
abbrev zS(l:M UInt8):SK:=.str ⟨l.toArray⟩
abbrev zL(k:Nat)(a:Bool):SK:=.nil k a
abbrev R:=u (Nat×M D)
noncomputable def opT(r:u D)(G:Gf)(t:ST)(a:M D):R:=match r with
 |some x=>eY G t 0 (a++[x])
 |none=>O
def poT(o:PO):u (M D)->u D
 |some a=>aS o a
 |none=>O
noncomputable def ogT(g:u Bool)(G:Gf)(o:PO)(es:M SE)(t:ST)(a:M D):R:=match g with
 |some I=>opT (poT o (jk a es)) G t a
 |some J=>eY G t 0 (a++[.bool J])
 |none=>O
noncomputable def XV(g:u Bool)(G:Gf)(a b:ST)(c:M D):R:=match g with
 |some I=>eY G a 0 c
 |some J=>eY G b 0 c
 |none=>O
noncomputable def clR(r:R)(G:Gf)(b:ST)(a:M D):R:=match r with
 |some (j,ws)=>eY G b j (a++ws)
 |none=>O
noncomputable def clT(r:u (M D))(G:Gf)(i:Nat)(c:ST)(a:M D):R:=match r with
 |some b=>clR (G i b) G c a
 |none=>O
def lfT(j:Nat):u (M D)->R
 |some a=>Z (j,a)
 |none=>O
def mpT(f:M Nat):R->R
 |some (j,σ)=>(nth f j).map (·,σ)
 |none=>O
noncomputable def sqT(r:R)(G:Gf)(a:ST):R:=match r with
 |some (j,σ)=>eY G a j σ
 |none=>O
noncomputable def lB(G:Gf)(a:ST)(p:Nat×M D):u (Sg (Nat×M D) (Nat×M D)):=E8 (eY G a p.1 p.2)
noncomputable def lpT(r:u (M D))(G:Gf)(h:Nat)(b:ST):R:=match r with
 |some a=>bJ (lB G b) (h,a)
 |none=>O
def gsT(w:Bool):u D->u Bool->u Bool
 |some (.bool b),Z c=>Z (if b=w then c else J)
 |_,_=>O
def elT(j:Nat):u D->u D
 |some x=>match elC x with
  |some a=>nth a j
  |none=>O
 |none=>O
def csT:u D->u (M D)->u (M D)
 |some x,Z xs=>Z (x::xs)
 |_,_=>O
section
variable (G:Gf) (ρ:M D)
theorem akI(o:PO)(es:M SE)(t:ST)(j:Nat):eY G (.op [] o es t) j ρ=opT (poT o (jk ρ es)) G t ρ:=by simp only[eY,jI,opT,poT];cases jk ρ es<;>rfl
theorem akH(p:SE×Bool)(a:Gs)(o:PO)(es:M SE)(t:ST)(j:Nat):eY G (.op (p::a) o es t) j ρ=ogT (jI ρ (p::a)) G o es t ρ:=by simp only[eY,ogT,opT,poT];generalize jI ρ (p::a)=g;rcases g with _|_|_;{rfl};{rfl};cases jk ρ es<;>rfl
theorem akD(c:Gs)(a b:ST)(j:Nat):eY G (.gd c a b) j ρ=XV (jI ρ c) G a b ρ:=(rfl)
theorem akB(i:Nat)(es:M SE)(a:ST)(j:Nat):eY G (.call i es a) j ρ=clT (jk ρ es) G i a ρ:=(rfl)
theorem akE(j:Nat)(es:M SE)(k:Nat):eY G (.leaf j es) k ρ=lfT j (jk ρ es):=(rfl)
theorem akG(f:M Nat)(t:ST)(k:Nat):eY G (.map f t) k ρ=mpT f (eY G t 0 ρ):=(rfl)
theorem akJ(t a:ST)(k:Nat):eY G (.seq t a) k ρ=sqT (eY G t 0 ρ) G a:=(rfl)
theorem akF(h:Nat)(es:M SE)(a:ST)(k:Nat):eY G (.loop h es a) k ρ=lpT (jk ρ es) G h a:=(rfl)
theorem akz(a b:ST)(k:Nat):eY G (.both a b) k ρ=II (eY G a 0 ρ) (eY G b 0 ρ):=(rfl)
theorem akA(a b:ST):eY G (.cons a b) 0 ρ=eY G a 0 ρ:=(rfl)
theorem akC(a b:ST)(j:Nat):eY G (.cons a b) (j+1) ρ=eY G b j ρ:=(rfl)
theorem amY(x:D)(t:ST):opT (Z x) G t ρ=eY G t 0 (ρ++[x]):=(rfl)
theorem anf(o:PO)(a:M D):poT o (Z a)=aS o a:=(rfl)
theorem amH(o:PO)(es:M SE)(t:ST):ogT (Z I) G o es t ρ=opT (poT o (jk ρ es)) G t ρ:=(rfl)
theorem amG(o:PO)(es:M SE)(t:ST):ogT (Z J) G o es t ρ=eY G t 0 (ρ++[.bool J]):=(rfl)
theorem akZ(a b:ST):XV (Z I) G a b ρ=eY G a 0 ρ:=(rfl)
theorem akY(a b:ST):XV (Z J) G a b ρ=eY G b 0 ρ:=(rfl)
theorem aks(a:M D)(i:Nat)(b:ST):clT (Z a) G i b ρ=clR (G i a) G b ρ:=(rfl)
theorem akr(j:Nat)(a:M D)(b:ST):clR (Z (j,a)) G b ρ=eY G b j (ρ++a):=(rfl)
theorem amk(j:Nat)(a:M D):lfT j (Z a)=Z (j,a):=(rfl)
theorem amw(f:M Nat)(j:Nat)(a:M D):mpT f (Z (j,a))=(nth f j).map (·,a):=(rfl)
theorem aon(j:Nat)(a:M D)(b:ST):sqT (Z (j,a)) G b=eY G b j a:=(rfl)
theorem amp(a:M D)(h:Nat)(b:ST):lpT (Z a) G h b=bJ (lB G b) (h,a):=(rfl)
theorem d_v(i:Nat):SE.d ρ (.v i)=nth ρ i:=(rfl)
theorem d_k(x:SK):SE.d ρ (.k x)=Z x.d:=(rfl)
theorem d_c(i j:Nat):SE.d ρ (.c i j)=elT j (nth ρ i):=by simp only[SE.d,elT];cases nth ρ i<;>rfl
theorem afs(j k:Nat)(b:Bool)(a:M D):elT j (Z (.list k b [a]))=nth a j:=(rfl)
theorem afr:jk ρ []=Z []:=(rfl)
theorem Zm(e:SE)(es:M SE):jk ρ (e::es)=csT (e.d ρ) (jk ρ es):=by simp only[jk];cases e.d ρ with|none=>{rfl}|some x=>cases jk ρ es<;>rfl
theorem akv(x:D)(a:M D):csT (Z x) (Z a)=Z (x::a):=(rfl)
theorem bn(b:ST)(h:Nat)(a:M D):lB G b (h,a)=E8 (eY G b h a):=(rfl)
theorem gO(j:Nat)(a:M D):E8 (Z (j,a))=Z (if j % 2=0 then .go (j / 2,a) else .out (j / 2,a)):=(rfl)
end
def AI(op:BinOp)(k:IntKind)(a b:Int):aS (.bin op) [.int k a,.int k b]=YE op k a b:=by simp only[aS,UR,if_true];cases YE op k a b<;>rfl
def abj(op:BinOp)(a b:z):aS (.bin op) [.str a,.str b]=YF op a b:=by simp only[aS,UR];cases YF op a b<;>rfl
theorem ang(op:BinOp)(a b:Bool):aS (.XU op) [.bool a,.bool b]=YD op a b:=(rfl)
theorem ahU(b:Bool):aS .not [.bool b]=Z (.bool (!b)):=(rfl)
theorem aee(k b:IntKind)(a:Int):aS (.conv k) [.int b a]=Z (.int k (k.wrap a)):=(rfl)
theorem ahT(k:IntKind)(a:Int):aS .neg [.int k a]=Z (.int k (k.wrap (-a))):=(rfl)
theorem ahR(k:Nat)(a:Bool)(es:M (M D)):aS .len [.list k a es]=Z (.int .i64 es.length):=(rfl)
theorem ahV(t:z):aS .sln [.str t]=Z (.int .i64 t.size):=(rfl)
def aei(b y:Bool):aS .ite [.bool b,.bool I,.bool y]=Z (.bool (b ||y)):=by cases b<;>rfl
def aeh(b y:Bool):aS .ite [.bool b,.bool y,.bool J]=Z (.bool (b && y)):=by cases b<;>rfl
theorem ahP(o k:Nat)(b:Bool)(a:M D):aS (.cel o) [.list k b [a]]=nth a o:=(rfl)
theorem zb(n k:Nat)(b:Bool)(a:M D):aS (.has n) [.list k b [a]]=if n<=a.length then Z (.bool J) else O:=(rfl)
def anh(k:Nat)(a:Bool)(es:M (M D))(n:Int)(h:0<=n):aS (.el k) [.list k a es,.int .i64 n]=(nth es n.toNat).map λe=>.list 0 J [e]:=by simp only[aS,h,and_self,if_true]
def kB(k:Nat)(a:Bool)(es:M (M D))(n:Nat):aS (.el k) [.list k a es,.int .i64 (n:Int)]=(nth es n).map λe=>.list 0 J [e]:=by rw[anh k a es n (by omega),cn]
def ahQ(k:Nat)(a:Bool)(es:M (M D)):aS (.el k) [.list k a es,.int .i64 0]=(nth es 0).map λe=>.list 0 J [e]:=kB k a es 0
def jh(k:Nat)(a:Bool)(es:M (M D))(n:Nat)(h:n<es.length):aS .UW [.list k a es,.int .i64 (n:Int)]=Z (.bool J):=by simp only[aS,cn];rw[if_pos ⟨by omega,h⟩]
def df(t:z)(n:Nat)(h:n<t.size):aS .six [.str t,.int .i64 (n:Int)]=Z (.int .u8 (bY t n)):=by simp only[aS,cn];rw[if_pos ⟨by omega,h⟩]
theorem abl:aS .pl []=Z (.bool J):=(rfl)
def Rl(k a:Nat)(c:Bool)(es b:M (M D))(h:(es.length+b.length) * a<=room/\es.length+b.length<=maxLen):aS (.app k a) [.list k c es,.list k c b]=Z (.list k c (es++b)):=by simp only[aS,h.1,h.2,and_self,if_true]
theorem ahS(a b:Int):aS .max [.int .i64 a,.int .i64 b]=Z (.int .i64 (if a<b then b else a)):=(rfl)
def xo(k:Nat)(a:Bool):aS (.lD k a) []=Z (.list k a []):=by simp only[aS,aK,Nat.zero_mod,if_true,Nat.zero_div,chunk];simp
theorem ai4(k:IntKind)(n:Int):SK.d (.int k n)=.int k n:=(rfl)
theorem aeQ(b:Bool):SK.d (.bool b)=.bool b:=(rfl)
theorem ai6(t:z):SK.d (.str t)=.str t:=(rfl)
theorem ai5(k:Nat)(a:Bool):SK.d (.nil k a)=.list k a []:=(rfl)
theorem ak1(a:M D)(e:SE)(w:Bool)(b:Gs)(c:Bool)(f:jI a b=Z c):jI a ((e,w)::b)=gsT w (e.d a) (Z c):=by simp only[jI];cases e.d a with|none=>{rfl}|some x=>cases x<;>simp only[gsT,f]<;>split<;>rfl
def agO(a:M D)(e:SE)(w:Bool):jI a [(e,w)]=gsT w (e.d a) (Z I):=ak1 a e w [] I rfl
def ak3(b:Bool):gsT I (Z (.bool b)) (Z I)=Z b:=by cases b<;>rfl
def ak2(b:Bool):gsT J (Z (.bool b)) (Z I)=Z (!b):=by cases b<;>rfl
attribute [go_sem] AI abj ang ahU aee ahT ahR ahV aei aeh ahP zb kB ahQ abl ahS xo ai4 aeQ ai6 ai5 agO ak3 ak2
attribute [go_sem] akI akH akD akB akE akG akJ akF akz akA akC amY anf amH amG akZ akY aks akr amk amw aon amp d_v d_k d_c afs afr Zm akv Qc
attribute [go_sem] Bm
attribute [go_sem] eh Nat.reduceMod Nat.reduceDiv cm reduceIte rG Int.reduceLT Int.reduceLE Int.reduceAdd Int.reduceSub Int.reduceNeg
end Go.Proofs.YtgnmdaifiodnnaaGreatDoor
