/- Part of the proof. Condition: none. -/
import Derived.Test.YtgnmdaifiodnnaaGreatDoorZz05
import Derived.Test.YtgnmdaifiodnnaaGreatDoorZz06
import Derived.Test.YtgnmdaifiodnnaaGreatDoorZz07
import Derived.Test.YtgnmdaifiodnnaaGreatDoorZz08
set_option linter.all false
open Bool renaming and_eq_true->aw,false_eq_true->aL,not_false->dh,false_ne_true->dr,not_true->dv,true_and->dw,or_eq_true->dE,or_false->dF,false_and->dH,eq_false_iff->dS,or_true->dZ,and_false->eo,and_true->fF,false_or->fV,not_not->iN,true_or->qS,true->I,false->J
open List renaming nil_append->av,cons_append->ax,all_eq_true->bG,mem_cons_of_mem->dO,mem_cons_self->dV
open Nat renaming blt->eP,beq->gI,eq_of_beq_eq_true->o0
open Option renaming map_some->aX,some->Z,none->O
open Decidable renaming decide->Z'
namespace Go.Proofs.YtgnmdaifiodnnaaGreatDoor
set_option maxRecDepth 100000
theorem K7{d:Nat}:∀{l:M Nat},yw d l=I->d∈l
 |[],h=>by cases h
 |e::l,h=>by simp only[yw]at h;split at h;{rename_i a;rw[o0 a];exact dV};exact dO _ (K7 h)
theorem exO:exs.all (λf=>match T f with
 |some k=>gI k.np 999
 |none=>I)=I:=by kernel_rfl
def cg:∀p∈o9.drop 0,cg1 p=I:=pj ao9 <|pj ao_ <|pj apa <|pj apb <|pj apc <|pj apd <|pj ape <|pj apf <|pj apg <|pj aph <|pj akc <|pj akd <|pj ake <|pj akf <|pj akg <|pj akh <|pj aki <|pj akj <|pj akk <|pj akl <|pj akm <|pj akn <|pj ako <|pj akp <|λ_ h=>by cases h
def ad_{h:M Nat}{i:Nat}{t:ST}(b:tx h i=Z t):∃a d,look o9 i=Z a/\T a.f=Z d/\(a.args.length ==d.np && eP d.np 999 && decide a.res.Nodup && eP a.f 100000)=I/\ab4 h o9 d a=Z t:=by unfold tx txk tT at b;split at b;{rename_i d e;split at e;{rename_i a g;rw[g]at b;dsimp only at b;split at b;{rename_i k;have c:=cg _ (Gz o9 g);simp only[cg1,e,dE]at c;rcases c with c|c;{have j:=bG.1 exO _ (K7 c);simp only[e,Nat.beq_eq]at j;rw[j]at k;exact absurd k (by decide)};rw[aw]at c;exact⟨a,d,g,e,c.2,b⟩};cases b};cases e};cases b
def ch{h:M Nat}{i:Nat}(r:R_ h i){a b:M D}{k:M A}{j:Nat}(d:ac4 i a=Z k)(hd:eY (GF T o9) r.t 0 a=Z (j,b)):GF T o9 i a=Z (j,b):=by obtain⟨l,m,c,g,f,e⟩:=ad_ r.ok;simp only[ac4,c]at d;exact ajU c g f e d hd
def lM{β:Type}(f:Nat->u β):Nat->Nat->u β
 |_,0=>O
 |i,m+1=>match f i with
  |some r=>Z r
  |none=>lM f (i+1) m
def Qg{a β:Type}(s:a):u β->Sg a β
 |none=>.go s
 |some r=>.out r
theorem E6{c β:Type}{b:c->u (Sg c β)}(mk:Nat->c)(f:Nat->u β)(n:Nat)(fin:β)
  (d:∀i,i<n->b (mk i)=Z (Qg (mk (i+1)) (f i))) (e:b (mk n)=Z (.out fin)):∀m i,i+m=n->bJ b (mk i)=Z ((lM f i m).getD fin)
 |0,i,h=>by (obtain rfl:i=n:=by omega);exact aO e
 |m+1,i,h=>by have a:=d i (by omega);simp only[lM];cases g:f i with|none=>{rw[g]at a;rw[bE a];exact E6 mk f n fin d e m (i+1) (by omega)}|some r=>rw[g]at a;rw[aO a];rfl
def oP(p:Nat->Bool):Nat->Nat->Bool
 |_,0=>I
 |i,m+1=>p i && oP p (i+1) m
theorem pq{e β:Type}{b:e->u (Sg e β)}(mk:Nat->e)(p:Nat->Bool)(n:Nat)(a f:β)
  (g:∀i,i<n->b (mk i)=Z (if p i=I then .go (mk (i+1)) else .out f)) (j:b (mk n)=Z (.out a)):∀m i,i+m=n->bJ b (mk i)=Z (if oP p i m=I then a else f)
 |0,i,h=>by (obtain rfl:i=n:=by omega);exact aO j
 |m+1,i,h=>by have d:=g i (by omega);have k:oP p i (m+1)=(p i && oP p (i+1) m):=rfl;rw[k];by_cases c:p i=I;{rw[if_pos c]at d;rw[bE d,c,dw];exact pq mk p n a f g j m (i+1) (by omega)};rw[if_neg c]at d;rw[aO d,dS.2 c,dH,if_neg dr]
def wi1{i n:Nat}(h:i<n)(a:n<=2147483648):IntKind.i64.wrap ((i:Int)+1)=((i+1:Nat):Int):=by rw[wrap_i64 (by omega)];omega
def ahB(i n:Nat):Z' ((i:Int)<(n:Int))=Z' (i<n):=by simp
theorem gL(G:Gf)(d:M D)(c:Bool)(a b:ST):XV (Z c) G a b d=match c with
  |true=>XV (Z I) G a b d
  |false=>XV (Z J) G a b d:=by cases c<;>rfl
theorem gP(G:Gf)(a:M D)(c:Bool)(o:PO)(es:M SE)(t:ST):ogT (Z c) G o es t a=match c with
  |true=>ogT (Z I) G o es t a
  |false=>ogT (Z J) G o es t a:=by cases c<;>rfl
theorem gM(G:Gf)(d:M D)(c:Bool)(a b:ST):XV (Z (!c)) G a b d=match c with
  |true=>XV (Z J) G a b d
  |false=>XV (Z I) G a b d:=by cases c<;>rfl
theorem gQ(G:Gf)(a:M D)(c:Bool)(o:PO)(es:M SE)(t:ST):ogT (Z (!c)) G o es t a=match c with
  |true=>ogT (Z J) G o es t a
  |false=>ogT (Z I) G o es t a:=by cases c<;>rfl
def eB(b c a:Int):Bool:=Z' (b<=a) && Z' (a<=c)
def ej(b c a:Int):eB b c a=I↔b<=a/\a<=c:=by simp[eB]
def acK(s:z)(i:Nat):IntKind.i64.wrap (bY s i)=bY s i:=by have:=mP s i;exact wrap_i64 (by omega)
def g2T(w:Bool):u D->u Bool->u Bool
 |some (.bool b),r=>if b=w then r else Z J
 |_,_=>O
theorem adg(a:M D)(e:SE)(w:Bool)(p:SE×Bool)(b:Gs):jI a ((e,w)::p::b)=g2T w (e.d a) (jI a (p::b)):=by simp only[jI];cases e.d a with|none=>{rfl}|some x=>cases x<;>rfl
theorem akX(r:u Bool):g2T I (Z (.bool I)) r=r:=(rfl)
theorem akW(r:u Bool):g2T I (Z (.bool J)) r=Z J:=(rfl)
theorem akV(r:u Bool):g2T J (Z (.bool I)) r=Z J:=(rfl)
theorem akU(r:u Bool):g2T J (Z (.bool J)) r=r:=(rfl)
def BD(b c:Bool):g2T I (Z (.bool b)) (Z c)=Z (b && c):=by cases b<;>rfl
def km(b c:Bool):g2T J (Z (.bool b)) (Z c)=Z (!b && c):=by cases b<;>rfl
attribute [go_sem] HD
attribute [go_sem] ax av ahB acK adg akX akW akV akU dv dh dw fF dH eo qS dZ fV dF decide_true decide_false Bool.true_eq_false aL iN aX Option.map_none gO Nat.zero_mod Nat.zero_div
theorem Ep{p q:Nat->Bool}:∀(m i:Nat),(∀j,i<=j->j<i+m->p j=q j)->oP p i m=oP q i m
 |0,_,_=>rfl
 |m+1,i,h=>by simp only[oP];rw[h i (by omega) (by omega),Ep m (i+1) λj b a=>h j (by omega) (by omega)]
theorem MZ{p:Nat->Bool}:∀{m i:Nat},oP p i m=I↔∀j,i<=j->j<i+m->p j=I
 |0,i=>⟨λ_ j b a=>by omega,λ_=>rfl⟩
 |m+1,i=>by simp only[oP,aw,MZ (m:=m) (i:=i+1)];refine⟨λh j b a=>?_,λh=>⟨h i (by omega) (by omega),λj b a=>h j (by omega) (by omega)⟩⟩;by_cases c:j=i;{subst c;exact h.1};exact h.2 j (by omega) (by omega)
abbrev mg:Nat:=268435456
def wj{i n:Nat}(h:i<n)(a:n<=mg):IntKind.i64.wrap ((i:Int)+1)=((i+1:Nat):Int):=wi1 h (by simp only[mg]at a;omega)
theorem n0:((0:Nat):Int)=0:=(rfl)
theorem n1:((1:Nat):Int)=1:=(rfl)
def aga{b:Int}(h:0<=b/\b<=255):IntKind.i64.wrap b=b:=wrap_i64 (by omega)
end Go.Proofs.YtgnmdaifiodnnaaGreatDoor
