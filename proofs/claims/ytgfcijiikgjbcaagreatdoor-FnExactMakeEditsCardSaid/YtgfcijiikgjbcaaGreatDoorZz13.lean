/- Part of the proof: a machine over plain data, its proof, the functions of the program run on symbols, what they answer. Condition: none. -/
import Derived.Test.YtgfcijiikgjbcaaGreatDoorZz05
import Derived.Test.YtgfcijiikgjbcaaGreatDoorZz06
import Derived.Test.YtgfcijiikgjbcaaGreatDoorZz07
import Derived.Test.YtgfcijiikgjbcaaGreatDoorZz08
import Derived.Test.YtgfcijiikgjbcaaGreatDoorZz09
import Derived.Test.YtgfcijiikgjbcaaGreatDoorZz10
import Derived.Test.YtgfcijiikgjbcaaGreatDoorZz11
import Derived.Test.YtgfcijiikgjbcaaGreatDoorZz12
set_option linter.unusedVariables false
set_option linter.unusedSimpArgs false
open Bool renaming and_eq_true->ai,false_eq_true->aD,not_not->aL,false_and->cM,true_and->cU,false_ne_true->da,or_eq_true->df,eq_false_iff->eg,and_true->gm,not_false->gp,false_or->gG,or_false->kg,and_false->kH,or_true->la,true_or->lg,not_true->lL,true->I,false->J
open List renaming cons_append->au,nil_append->av,all_eq_true->bz,mem_cons_self->bQ,mem_cons_of_mem->bT
open Nat renaming blt->gh,beq->hX,eq_of_beq_eq_true->l9
open Option renaming map_some->aQ,some->Z,none->O
open Decidable renaming decide->Z'
namespace Go.Proofs.YtgfcijiikgjbcaaGreatDoor
set_option maxRecDepth 100000
section
theorem IV{d:Nat}:∀{l:M Nat},wV d l=I->d∈l
 |[],h=>by cases h
 |e::l,h=>by
  simp only[wV]at h
  split at h
  ·rename_i a;rw[l9 a];exact bQ
  ·exact bT _ (IV h)
theorem exO:exs.all (λf=>match T f with
 |some k=>hX k.np 999
 |none=>I)=I:=by kernel_rfl
theorem cg:∀p∈xf.drop 0,cg1 p=I:=KQ ajg <|KQ ajh <|KQ aji <|KQ ajj <|KQ ajk <|KQ ajl <|KQ ajm <|KQ ajn <|λ_ h=>by cases h
theorem aas{h:M Nat}{i:Nat}{t:ST}(a:tx h i=Z t):∃b d,look xf i=Z b/\T b.f=Z d/\(b.args.length ==d.np && gh d.np 999 && decide b.res.Nodup)=I/\Xu h xf d b=Z t:=by
 unfold tx txk tT at a
 split at a
 ·rename_i d e
  split at e
  ·rename_i b g;rw[g]at a;dsimp only at a
   split at a
   ·rename_i k;have c:=cg _ (EE xf g);simp only[cg1,e,df]at c;rcases c with c|c
    ·have j:=bz.1 exO _ (IV c);simp only[e,Nat.beq_eq]at j;rw[j]at k;exact absurd k (by decide)
    ·rw[ai]at c;exact⟨b,d,g,e,c.2,a⟩
   ·cases a
  ·cases e
 ·cases a
theorem cN{h:M Nat}{i:Nat}(r:R_ h i){a b:M D}{k:M A}{j:Nat}(d:Y9 i a=Z k)(hd:eZ (GF T xf) r.t 0 a=Z (j,b)):GF T xf i a=Z (j,b):=by
 obtain⟨l,m,c,g,f,e⟩:=aas r.ok;simp only[Y9,c]at d;exact ae2 c g f e d hd
end
def mq{β:Type}(f:Nat->u β):Nat->Nat->u β
 |_,0=>O
 |i,m+1=>match f i with
  |some r=>Z r
  |none=>mq f (i+1) m
def UF{a β:Type}(s:a):u β->Sg a β
 |none=>.go s
 |some r=>.out r
theorem IL{c β:Type}{b:c->u (Sg c β)}(mk:Nat->c)(f:Nat->u β)(n:Nat)(fin:β)
  (d:∀i,i < n->b (mk i)=Z (UF (mk (i+1)) (f i))) (g:b (mk n)=Z (.out fin)):∀m i,i+m=n->cl b (mk i)=Z ((mq f i m).getD fin)
 |0,i,h=>by
  obtain rfl:i=n:=by omega
  exact aX g
 |m+1,i,h=>by
  have a:=d i (by omega);simp only[mq];cases e:f i with
  |none=>rw[e]at a;rw[bU a];exact IL mk f n fin d g m (i+1) (by omega)
  |some r=>rw[e]at a;rw[aX a];rfl
def rB(p:Nat->Bool):Nat->Nat->Bool
 |_,0=>I
 |i,m+1=>p i && rB p (i+1) m
theorem qV{e β:Type}{b:e->u (Sg e β)}(mk:Nat->e)(p:Nat->Bool)(n:Nat)(a f:β)
  (g:∀i,i < n->b (mk i)=Z (if p i=I then .go (mk (i+1)) else .out f)) (j:b (mk n)=Z (.out a)):∀m i,i+m=n->cl b (mk i)=Z (if rB p i m=I then a else f)
 |0,i,h=>by
  obtain rfl:i=n:=by omega
  exact aX j
 |m+1,i,h=>by
  have d:=g i (by omega);have k:rB p i (m+1)=(p i && rB p (i+1) m):=rfl;rw[k];by_cases c:p i=I
  ·rw[if_pos c]at d;rw[bU d,c,cU];exact qV mk p n a f g j m (i+1) (by omega)
  ·rw[if_neg c]at d;rw[aX d,eg.2 c,cM,if_neg da]
theorem wi1{i n:Nat}(h:i < n)(a:n<=2147483648):IntKind.i64.wrap ((i:Int)+1)=((i+1:Nat):Int):=by
 rw[wrap_i64 (by omega)];omega
theorem ac4(i n:Nat):Z' ((i:Int) < (n:Int))=Z' (i < n):=by simp
theorem gz(G:Gf)(d:M D)(c:Bool)(a b:ST):TL (Z c) G a b d=match c with
  |true=>TL (Z I) G a b d
  |false=>TL (Z J) G a b d:=by cases c<;>rfl
theorem gB(G:Gf)(a:M D)(c:Bool)(o:PO)(es:M SE)(t:ST):WS (Z c) G o es t a=match c with
  |true=>WS (Z I) G o es t a
  |false=>WS (Z J) G o es t a:=by cases c<;>rfl
theorem gA(G:Gf)(d:M D)(c:Bool)(a b:ST):TL (Z (!c)) G a b d=match c with
  |true=>TL (Z J) G a b d
  |false=>TL (Z I) G a b d:=by cases c<;>rfl
theorem gC(G:Gf)(a:M D)(c:Bool)(o:PO)(es:M SE)(t:ST):WS (Z (!c)) G o es t a=match c with
  |true=>WS (Z J) G o es t a
  |false=>WS (Z I) G o es t a:=by cases c<;>rfl
def fS(b c a:Int):Bool:=Z' (b<=a) && Z' (a<=c)
theorem gZ(b c a:Int):fS b c a=I↔b<=a/\a<=c:=by simp[fS]
theorem Ya(s:z)(i:Nat):IntKind.i64.wrap (eA s i)=eA s i:=by
 have:=sU s i;exact wrap_i64 (by omega)
def g2T(w:Bool):u D->u Bool->u Bool
 |some (.bool b),r=>if b=w then r else Z J
 |_,_=>O
theorem Zl(a:M D)(e:SE)(w:Bool)(p:SE×Bool)(b:Gs):jt a ((e,w)::p::b)=g2T w (e.d a) (jt a (p::b)):=by
 simp only[jt];cases e.d a with
 |none=>rfl
 |some x=>cases x<;>rfl
theorem afN(r:u Bool):g2T I (Z (.bool I)) r=r:=(rfl)
theorem afM(r:u Bool):g2T I (Z (.bool J)) r=Z J:=(rfl)
theorem afL(r:u Bool):g2T J (Z (.bool I)) r=Z J:=(rfl)
theorem afK(r:u Bool):g2T J (Z (.bool J)) r=r:=(rfl)
theorem ef(b c:Bool):g2T I (Z (.bool b)) (Z c)=Z (b && c):=by cases b<;>rfl
theorem ee(b c:Bool):g2T J (Z (.bool b)) (Z c)=Z (!b && c):=by cases b<;>rfl
attribute [go_sem] FG
attribute [go_sem] au av ac4 Ya Zl afN afM afL afK lL gp cU gm cM kH lg la gG kg decide_true decide_false Bool.true_eq_false aD aL aQ Option.map_none gO Nat.zero_mod Nat.zero_div
theorem C2{p q:Nat->Bool}:∀(m i:Nat),(∀j,i<=j->j < i+m->p j=q j)->rB p i m=rB q i m
 |0,_,_=>rfl
 |m+1,i,h=>by simp only[rB];rw[h i (by omega) (by omega),C2 m (i+1) λj b a=>h j (by omega) (by omega)]
abbrev mg:Nat:=33554432
theorem wj{i n:Nat}(h:i < n)(a:n<=mg):IntKind.i64.wrap ((i:Int)+1)=((i+1:Nat):Int):=wi1 h (by simp only[mg]at a;omega)
theorem n0:((0:Nat):Int)=0:=(rfl)
theorem n1:((1:Nat):Int)=1:=(rfl)
theorem abZ{b:Int}(h:0<=b/\b<=255):IntKind.i64.wrap b=b:=wrap_i64 (by omega)
end Go.Proofs.YtgfcijiikgjbcaaGreatDoor
