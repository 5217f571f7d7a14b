/- Part of the proof: a machine over plain data, its proof, the functions of the program run on symbols, what they answer. Condition: none. -/
import Derived.Test.YtnnjajingjfjiaaGreatDoorZz05
import Derived.Test.YtnnjajingjfjiaaGreatDoorZz06
import Derived.Test.YtnnjajingjfjiaaGreatDoorZz07
import Derived.Test.YtnnjajingjfjiaaGreatDoorZz08
import Derived.Test.YtnnjajingjfjiaaGreatDoorZz09
import Derived.Test.YtnnjajingjfjiaaGreatDoorZz10
import Derived.Test.YtnnjajingjfjiaaGreatDoorZz11
import Derived.Test.YtnnjajingjfjiaaGreatDoorZz12
set_option linter.unusedVariables false
set_option linter.unusedSimpArgs false
open Bool renaming and_eq_true->ai,false_eq_true->aF,false_and->cP,true_and->cW,or_eq_true->da,false_ne_true->dq,eq_false_iff->ej,not_not->fM,and_true->fZ,not_false->ga,false_or->gA,or_false->kc,and_false->kH,or_true->ll,not_true->lJ,true_or->mQ,true->I,false->J
open List renaming cons_append->au,nil_append->av,all_eq_true->bw,mem_cons_of_mem->bP,mem_cons_self->bQ
open Nat renaming blt->fV,beq->gR,eq_of_beq_eq_true->l8
open Option renaming map_some->aQ,some->Z,none->O
open Decidable renaming decide->Z'
namespace Go.Proofs.YtnnjajingjfjiaaGreatDoor
set_option maxRecDepth 100000
section
theorem Kt{d:Nat}:∀{l:M Nat},xW d l=I->d∈l
 |[],h=>by cases h
 |e::l,h=>by
  simp only[xW]at h
  split at h
  ·rename_i a;rw[l8 a];exact bQ
  ·exact bP _ (Kt h)
theorem exO:exs.all (λf=>match T f with
 |some k=>gR k.np 999
 |none=>I)=I:=by kernel_rfl
theorem cg:∀p∈qq.drop 0,cg1 p=I:=pZ al8 <|pZ al9 <|pZ al_ <|pZ ama <|pZ amb <|pZ amc <|pZ amd <|pZ ame <|pZ amf <|pZ amg <|pZ ahG <|pZ ahH <|pZ ahI <|pZ ahJ <|pZ ahK <|pZ ahL <|pZ ahM <|pZ ahN <|pZ ahO <|pZ ahP <|pZ ahQ <|pZ ahR <|pZ ahS <|pZ ahT <|λ_ h=>by cases h
theorem acp{h:M Nat}{i:Nat}{t:ST}(a:tx h i=Z t):∃b d,look qq i=Z b/\T b.f=Z d/\(b.args.length ==d.np && fV d.np 999 && decide b.res.Nodup)=I/\Z8 h qq d b=Z t:=by
 unfold tx txk tT at a
 split at a
 ·rename_i d e
  split at e
  ·rename_i b g;rw[g]at a;dsimp only at a
   split at a
   ·rename_i k;have c:=cg _ (Gj qq g);simp only[cg1,e,da]at c;rcases c with c|c
    ·have j:=bw.1 exO _ (Kt c);simp only[e,Nat.beq_eq]at j;rw[j]at k;exact absurd k (by decide)
    ·rw[ai]at c;exact⟨b,d,g,e,c.2,a⟩
   ·cases a
  ·cases e
 ·cases a
theorem ct{h:M Nat}{i:Nat}(r:R_ h i){a b:M D}{k:M A}{j:Nat}(d:abc i a=Z k)(hd:eV (GF T qq) r.t 0 a=Z (j,b)):GF T qq i a=Z (j,b):=by
 obtain⟨l,m,c,g,f,e⟩:=acp r.ok;simp only[abc,c]at d;exact aho c g f e d hd
end
def mj{β:Type}(f:Nat->u β):Nat->Nat->u β
 |_,0=>O
 |i,m+1=>match f i with
  |some r=>Z r
  |none=>mj f (i+1) m
def Xj{a β:Type}(s:a):u β->Sg a β
 |none=>.go s
 |some r=>.out r
theorem Kc{c β:Type}{b:c->u (Sg c β)}(mk:Nat->c)(f:Nat->u β)(n:Nat)(fin:β)
  (d:∀i,i < n->b (mk i)=Z (Xj (mk (i+1)) (f i))) (g:b (mk n)=Z (.out fin)):∀m i,i+m=n->cm b (mk i)=Z ((mj f i m).getD fin)
 |0,i,h=>by
  obtain rfl:i=n:=by omega
  exact bg g
 |m+1,i,h=>by
  have a:=d i (by omega);simp only[mj];cases e:f i with
  |none=>rw[e]at a;rw[bY a];exact Kc mk f n fin d g m (i+1) (by omega)
  |some r=>rw[e]at a;rw[bg a];rfl
def sw(p:Nat->Bool):Nat->Nat->Bool
 |_,0=>I
 |i,m+1=>p i && sw p (i+1) m
theorem rV{e β:Type}{b:e->u (Sg e β)}(mk:Nat->e)(p:Nat->Bool)(n:Nat)(a f:β)
  (g:∀i,i < n->b (mk i)=Z (if p i=I then .go (mk (i+1)) else .out f)) (j:b (mk n)=Z (.out a)):∀m i,i+m=n->cm b (mk i)=Z (if sw p i m=I then a else f)
 |0,i,h=>by
  obtain rfl:i=n:=by omega
  exact bg j
 |m+1,i,h=>by
  have d:=g i (by omega);have k:sw p i (m+1)=(p i && sw p (i+1) m):=rfl;rw[k];by_cases c:p i=I
  ·rw[if_pos c]at d;rw[bY d,c,cW];exact rV mk p n a f g j m (i+1) (by omega)
  ·rw[if_neg c]at d;rw[bg d,ej.2 c,cP,if_neg dq]
theorem wi1{i n:Nat}(h:i < n)(a:n<=2147483648):IntKind.i64.wrap ((i:Int)+1)=((i+1:Nat):Int):=by
 rw[wrap_i64 (by omega)];omega
theorem afh(i n:Nat):Z' ((i:Int) < (n:Int))=Z' (i < n):=by simp
theorem gj(G:Gf)(d:M D)(c:Bool)(a b:ST):Wo (Z c) G a b d=match c with
  |true=>Wo (Z I) G a b d
  |false=>Wo (Z J) G a b d:=by cases c<;>rfl
theorem gm(G:Gf)(a:M D)(c:Bool)(o:PO)(es:M SE)(t:ST):Zv (Z c) G o es t a=match c with
  |true=>Zv (Z I) G o es t a
  |false=>Zv (Z J) G o es t a:=by cases c<;>rfl
theorem gk(G:Gf)(d:M D)(c:Bool)(a b:ST):Wo (Z (!c)) G a b d=match c with
  |true=>Wo (Z J) G a b d
  |false=>Wo (Z I) G a b d:=by cases c<;>rfl
theorem gp(G:Gf)(a:M D)(c:Bool)(o:PO)(es:M SE)(t:ST):Zv (Z (!c)) G o es t a=match c with
  |true=>Zv (Z J) G o es t a
  |false=>Zv (Z I) G o es t a:=by cases c<;>rfl
def fO(b c a:Int):Bool:=Z' (b<=a) && Z' (a<=c)
theorem gP(b c a:Int):fO b c a=I↔b<=a/\a<=c:=by simp[fO]
theorem aaM(s:z)(i:Nat):IntKind.i64.wrap (eB s i)=eB s i:=by
 have:=ue s i;exact wrap_i64 (by omega)
def g2T(w:Bool):u D->u Bool->u Bool
 |some (.bool b),r=>if b=w then r else Z J
 |_,_=>O
theorem abp(a:M D)(e:SE)(w:Bool)(p:SE×Bool)(b:Gs):jq a ((e,w)::p::b)=g2T w (e.d a) (jq a (p::b)):=by
 simp only[jq];cases e.d a with
 |none=>rfl
 |some x=>cases x<;>rfl
theorem aip(r:u Bool):g2T I (Z (.bool I)) r=r:=(rfl)
theorem aio(r:u Bool):g2T I (Z (.bool J)) r=Z J:=(rfl)
theorem ain(r:u Bool):g2T J (Z (.bool I)) r=Z J:=(rfl)
theorem aim(r:u Bool):g2T J (Z (.bool J)) r=r:=(rfl)
theorem uv(b c:Bool):g2T I (Z (.bool b)) (Z c)=Z (b && c):=by cases b<;>rfl
theorem hO(b c:Bool):g2T J (Z (.bool b)) (Z c)=Z (!b && c):=by cases b<;>rfl
attribute [go_sem] Ho
attribute [go_sem] au av afh aaM abp aip aio ain aim lJ ga cW fZ cP kH mQ ll gA kc decide_true decide_false Bool.true_eq_false aF fM aQ Option.map_none gO Nat.zero_mod Nat.zero_div
theorem Er{p q:Nat->Bool}:∀(m i:Nat),(∀j,i<=j->j < i+m->p j=q j)->sw p i m=sw q i m
 |0,_,_=>rfl
 |m+1,i,h=>by simp only[sw];rw[h i (by omega) (by omega),Er m (i+1) λj b a=>h j (by omega) (by omega)]
abbrev mg:Nat:=33554432
theorem wj{i n:Nat}(h:i < n)(a:n<=mg):IntKind.i64.wrap ((i:Int)+1)=((i+1:Nat):Int):=wi1 h (by simp only[mg]at a;omega)
theorem n0:((0:Nat):Int)=0:=(rfl)
theorem n1:((1:Nat):Int)=1:=(rfl)
theorem ad9{b:Int}(h:0<=b/\b<=255):IntKind.i64.wrap b=b:=wrap_i64 (by omega)
end Go.Proofs.YtnnjajingjfjiaaGreatDoor
