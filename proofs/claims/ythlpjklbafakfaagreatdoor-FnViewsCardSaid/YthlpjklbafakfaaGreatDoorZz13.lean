/- Part of the proof: a machine over plain data, its proof, the functions of the program run on symbols, what they answer. Condition: none. -/
import Derived.Test.YthlpjklbafakfaaGreatDoorZz05
import Derived.Test.YthlpjklbafakfaaGreatDoorZz06
import Derived.Test.YthlpjklbafakfaaGreatDoorZz07
import Derived.Test.YthlpjklbafakfaaGreatDoorZz08
import Derived.Test.YthlpjklbafakfaaGreatDoorZz09
import Derived.Test.YthlpjklbafakfaaGreatDoorZz10
import Derived.Test.YthlpjklbafakfaaGreatDoorZz11
import Derived.Test.YthlpjklbafakfaaGreatDoorZz12
set_option linter.unusedVariables false
set_option linter.unusedSimpArgs false
open Bool renaming and_eq_true->af,false_eq_true->aC,not_not->aI,false_and->cI,true_and->cJ,false_ne_true->cS,or_eq_true->dr,not_false->dZ,and_true->ed,eq_false_iff->eg,or_false->ew,not_true->eP,false_or->fh,or_true->ft,and_false->fO,true_or->ir,true->I,false->J
open List renaming cons_append->aq,nil_append->ay,mem_cons_self->aU,all_eq_true->bg,mem_cons_of_mem->bk
open Nat renaming beq->fj,blt->gf,eq_of_beq_eq_true->gl,beq_eq->rE
open Option renaming map_some->aH,some->Z,none->O
open Decidable renaming decide->Z'
namespace Go.Proofs.YthlpjklbafakfaaGreatDoor
set_option maxRecDepth 100000
section
theorem Iy{d:Nat}:∀{l:M Nat},ud d l=I->d∈l
 |[],h=>by cases h
 |e::l,h=>by
  simp only[ud]at h
  split at h
  ·rename_i a;rw[gl a];exact aU
  ·exact bk _ (Iy h)
theorem exO:exs.all (λf=>match T f with
 |some k=>fj k.np 999
 |none=>I)=I:=by kernel_rfl
theorem cg:∀p∈nY.drop 0,cg1 p=I:=oY akx <|oY aky <|oY akz <|oY akA <|oY akB <|oY akC <|oY akD <|oY akE <|oY akF <|oY akG <|oY af1 <|oY af2 <|oY af3 <|oY af4 <|oY af5 <|oY af6 <|oY af7 <|oY af8 <|oY af9 <|oY af_ <|oY aga <|oY agb <|oY agc <|oY agd <|λ_ h=>by cases h
theorem aaq{h:M Nat}{i:Nat}{t:ST}(a:tx h i=Z t):∃b kf,look nY i=Z b/\T b.f=Z kf/\(b.args.length ==kf.np && gf kf.np 999 && decide b.res.Nodup)=I/\XG h nY kf b=Z t:=by
 unfold tx txk tT at a
 split at a
 ·rename_i kf d
  split at d
  ·rename_i b e;rw[e]at a;dsimp only at a
   split at a
   ·rename_i j;have c:=cg _ (Ef nY e);simp only[cg1,d,dr]at c;rcases c with c|c
    ·have g:=bg.1 exO _ (Iy c);simp only[d,rE]at g;rw[g]at j;exact absurd j (by decide)
    ·rw[af]at c;exact⟨b,kf,e,d,c.2,a⟩
   ·cases a
  ·cases d
 ·cases a
theorem dd{h:M Nat}{i:Nat}(r:R_ h i){a b:M D}{k:M A}{j:Nat}(d:Rq i a=Z k)(hd:dY (GF T nY) r.t 0 a=Z (j,b)):GF T nY i a=Z (j,b):=by
 obtain⟨l,kf,c,g,f,e⟩:=aaq r.ok;simp only[Rq,c]at d;exact afH c g f e d hd
end
def ma{β:Type}(f:Nat->u β):Nat->Nat->u β
 |_,0=>O
 |i,m+1=>match f i with
  |some r=>Z r
  |none=>ma f (i+1) m
def Uu{a β:Type}(s:a):u β->Sg a β
 |none=>.go s
 |some r=>.out r
theorem Iq{c β:Type}{b:c->u (Sg c β)}(mk:Nat->c)(f:Nat->u β)(n:Nat)(fin:β)
  (d:∀i,i < n->b (mk i)=Z (Uu (mk (i+1)) (f i))) (e:b (mk n)=Z (.out fin)):∀m i,i+m=n->bK b (mk i)=Z ((ma f i m).getD fin)
 |0,i,h=>by
  obtain rfl:i=n:=by omega
  exact aF e
 |m+1,i,h=>by
  have a:=d i (by omega);simp only[ma];cases g:f i with
  |none=>rw[g]at a;rw[bB a];exact Iq mk f n fin d e m (i+1) (by omega)
  |some r=>rw[g]at a;rw[aF a];rfl
def pB(p:Nat->Bool):Nat->Nat->Bool
 |_,0=>I
 |i,m+1=>p i && pB p (i+1) m
theorem o7{e β:Type}{b:e->u (Sg e β)}(mk:Nat->e)(p:Nat->Bool)(n:Nat)(a f:β)
  (g:∀i,i < n->b (mk i)=Z (if p i=I then .go (mk (i+1)) else .out f)) (j:b (mk n)=Z (.out a)):∀m i,i+m=n->bK b (mk i)=Z (if pB p i m=I then a else f)
 |0,i,h=>by
  obtain rfl:i=n:=by omega
  exact aF j
 |m+1,i,h=>by
  have d:=g i (by omega);have k:pB p i (m+1)=(p i && pB p (i+1) m):=rfl;rw[k];by_cases c:p i=I
  ·rw[if_pos c]at d;rw[bB d,c,cJ];exact o7 mk p n a f g j m (i+1) (by omega)
  ·rw[if_neg c]at d;rw[aF d,eg.2 c,cI,if_neg cS]
theorem wi1{i n:Nat}(h:i < n)(a:n<=2147483648):IntKind.i64.wrap ((i:Int)+1)=((i+1:Nat):Int):=by
 rw[wrap_i64 (by omega)];omega
theorem adT(i n:Nat):Z' ((i:Int) < (n:Int))=Z' (i < n):=by simp
theorem gu(G:Gf)(d:M D)(c:Bool)(a b:ST):TN (Z c) G a b d=match c with
  |true=>TN (Z I) G a b d
  |false=>TN (Z J) G a b d:=by cases c<;>rfl
theorem gA(G:Gf)(a:M D)(c:Bool)(o:PO)(es:M SE)(t:ST):WE (Z c) G o es t a=match c with
  |true=>WE (Z I) G o es t a
  |false=>WE (Z J) G o es t a:=by cases c<;>rfl
theorem gx(G:Gf)(d:M D)(c:Bool)(a b:ST):TN (Z (!c)) G a b d=match c with
  |true=>TN (Z J) G a b d
  |false=>TN (Z I) G a b d:=by cases c<;>rfl
theorem gB(G:Gf)(a:M D)(c:Bool)(o:PO)(es:M SE)(t:ST):WE (Z (!c)) G o es t a=match c with
  |true=>WE (Z J) G o es t a
  |false=>WE (Z I) G o es t a:=by cases c<;>rfl
def fG(b c a:Int):Bool:=Z' (b<=a) && Z' (a<=c)
theorem gG(b c a:Int):fG b c a=I↔b<=a/\a<=c:=by simp[fG]
theorem X9(s:z)(i:Nat):IntKind.i64.wrap (cr s i)=cr s i:=by
 have:=mF s i;exact wrap_i64 (by omega)
def g2T(w:Bool):u D->u Bool->u Bool
 |some (.bool b),r=>if b=w then r else Z J
 |_,_=>O
theorem Zn(a:M D)(e:SE)(w:Bool)(p:SE×Bool)(b:Gs):iJ a ((e,w)::p::b)=g2T w (e.d a) (iJ a (p::b)):=by
 simp only[iJ];cases e.d a with
 |none=>rfl
 |some x=>cases x<;>rfl
theorem agJ(r:u Bool):g2T I (Z (.bool I)) r=r:=(rfl)
theorem agI(r:u Bool):g2T I (Z (.bool J)) r=Z J:=(rfl)
theorem agH(r:u Bool):g2T J (Z (.bool I)) r=Z J:=(rfl)
theorem agG(r:u Bool):g2T J (Z (.bool J)) r=r:=(rfl)
theorem eI(b c:Bool):g2T I (Z (.bool b)) (Z c)=Z (b && c):=by cases b<;>rfl
theorem eH(b c:Bool):g2T J (Z (.bool b)) (Z c)=Z (!b && c):=by cases b<;>rfl
attribute [go_sem] E0
attribute [go_sem] aq ay adT X9 Zn agJ agI agH agG eP dZ cJ ed cI fO ir ft fh ew decide_true decide_false Bool.true_eq_false aC aI aH Option.map_none gO Nat.zero_mod Nat.zero_div
theorem CP{p q:Nat->Bool}:∀(m i:Nat),(∀j,i<=j->j < i+m->p j=q j)->pB p i m=pB q i m
 |0,_,_=>rfl
 |m+1,i,h=>by simp only[pB];rw[h i (by omega) (by omega),CP m (i+1) λj b a=>h j (by omega) (by omega)]
abbrev mg:Nat:=33554432
theorem wj{i n:Nat}(h:i < n)(a:n<=mg):IntKind.i64.wrap ((i:Int)+1)=((i+1:Nat):Int):=wi1 h (by simp only[mg]at a;omega)
theorem n0:((0:Nat):Int)=0:=(rfl)
theorem n1:((1:Nat):Int)=1:=(rfl)
theorem acm{b:Int}(h:0<=b/\b<=255):IntKind.i64.wrap b=b:=wrap_i64 (by omega)
end Go.Proofs.YthlpjklbafakfaaGreatDoor
