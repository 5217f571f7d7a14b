/- Part of the proof. Condition: none. -/
import Derived.Test.YtbnmicpicjmgiaaGreatDoorZz05
import Derived.Test.YtbnmicpicjmgiaaGreatDoorZz06
import Derived.Test.YtbnmicpicjmgiaaGreatDoorZz07
import Derived.Test.YtbnmicpicjmgiaaGreatDoorZz08
set_option linter.all false
open Bool renaming and_eq_true->aw,false_eq_true->aQ,not_false->db,false_ne_true->dh,not_true->dr,or_false->dB,true_and->dC,false_and->dK,eq_false_iff->dQ,or_true->dX,and_false->eJ,or_eq_true->eY,and_true->fT,false_or->fU,not_not->iO,true_or->qS,true->I,false->J
open List renaming nil_append->au,cons_append->av,all_eq_true->bF,mem_cons_of_mem->eb,mem_cons_self->eo
open Nat renaming blt->eP,beq->gH,eq_of_beq_eq_true->yc
open Option renaming map_some->cV,some->Z,none->O
open Decidable renaming decide->Z'
namespace Go.Proofs.YtbnmicpicjmgiaaGreatDoor
set_option maxRecDepth 100000
theorem Ld{d:Nat}:∀{l:M Nat},yw d l=I->d∈l
 |[],h=>by cases h
 |e::l,h=>by simp only[yw]at h;split at h;{rename_i a;rw[yc a];exact eo};exact eb _ (Ld h)
theorem exO:exs.all (λf=>match T f with
 |some k=>gH k.np 999
 |none=>I)=I:=by kernel_rfl
def cg:∀p∈o0.drop 0,cg1 p=I:=pg aqi <|pg aqj <|pg aqk <|pg aql <|pg aqm <|pg aqn <|pg aqo <|pg aqp <|pg aqq <|pg aqr <|pg akX <|pg akY <|pg akZ <|pg ak0 <|pg ak1 <|pg ak2 <|pg ak3 <|pg ak4 <|pg ak5 <|pg ak6 <|pg ak7 <|pg ak8 <|pg ak9 <|pg ak_ <|λ_ h=>by cases h
def aeP{h:M Nat}{i:Nat}{t:ST}(b:tx h i=Z t):∃a d,look o0 i=Z a/\T a.f=Z d/\(a.args.length ==d.np && eP d.np 999 && decide a.res.Nodup && eP a.f 100000)=I/\acE h o0 d a=Z t:=by unfold tx txk tT at b;split at b;{rename_i d e;split at e;{rename_i a g;rw[g]at b;dsimp only at b;split at b;{rename_i k;have c:=cg _ (GH o0 g);simp only[cg1,e,eY]at c;rcases c with c|c;{have j:=bF.1 exO _ (Ld c);simp only[e,Nat.beq_eq]at j;rw[j]at k;exact absurd k (by decide)};rw[aw]at c;exact⟨a,d,g,e,c.2,b⟩};cases b};cases e};cases b
def bW{h:M Nat}{i:Nat}(r:R_ h i){a b:M D}{k:M A}{j:Nat}(d:adF i a=Z k)(hd:eU (GF T o0) r.t 0 a=Z (j,b)):GF T o0 i a=Z (j,b):=by obtain⟨l,m,c,g,f,e⟩:=aeP r.ok;simp only[adF,c]at d;exact akD c g f e d hd
def lH{β:Type}(f:Nat->u β):Nat->Nat->u β
 |_,0=>O
 |i,m+1=>match f i with
  |some r=>Z r
  |none=>lH f (i+1) m
def Qy{a β:Type}(s:a):u β->Sg a β
 |none=>.go s
 |some r=>.out r
theorem Fc{g β:Type}{b}(mk:Nat->g)f n(fin:β)
  (c:∀i,i<n->b (mk i)=Z (Qy (mk (i+1)) (f i))) (d:b (mk n)=Z (.out fin)):∀m i,i+m=n->bG b (mk i)=Z ((lH f i m).getD fin)
 |0,i,h=>by (obtain rfl:i=n:=by omega);exact aK d
 |m+1,i,h=>by have a:=c i (by omega);simp[lH];cases e:f i with|none=>{rw[e]at a;rw[bD a];exact Fc mk f n fin c d m (i+1) (by omega)}|some r=>rw[e]at a;rw[aK a];rfl
def oP(p:Nat->Bool):Nat->Nat->Bool
 |_,0=>I
 |i,m+1=>p i && oP p (i+1) m
theorem pq{j β:Type}{b}(mk:Nat->j)p n(a e:β)
  (f:∀i,i<n->b (mk i)=Z (if p i=I then .go (mk (i+1)) else .out e)) (g:b (mk n)=Z (.out a)):∀m i,i+m=n->bG b (mk i)=Z (if oP p i m=I then a else e)
 |0,i,h=>by (obtain rfl:i=n:=by omega);exact aK g
 |m+1,i,h=>by have d:=f i (by omega);have k:oP p i (m+1)=(p i && oP p (i+1) m):=rfl;rw[k];by_cases c:p i=I;{rw[if_pos c]at d;rw[bD d,c,dC];exact pq mk p n a e f g m (i+1) (by omega)};rw[if_neg c]at d;rw[aK d,dQ.2 c,dK,if_neg dh]
def wi1{i n:Nat}(h:i<n)(a:n<=2147483648):IntKind.i64.wrap ((i)+1)=((i+1:Nat):Int):=by rw[wrap_i64 (by omega)];omega
def ain(i n:Nat):Z' ((i)<(n:Int))=Z' (i<n):=by simp
theorem gM(G:Gf)(d:M D)(c:Bool)(a b:ST):Ye (Z c) G a b d=match c with
  |true=>Ye (Z I) G a b d
  |false=>Ye (Z J) G a b d:=by cases c<;>rfl
theorem gP(G:Gf)(a:M D)(c:Bool)(o:PO)(es:M SE)(t:ST):ogT (Z c) G o es t a=match c with
  |true=>ogT (Z I) G o es t a
  |false=>ogT (Z J) G o es t a:=by cases c<;>rfl
theorem gN(G:Gf)(d:M D)(c:Bool)(a b:ST):Ye (Z (!c)) G a b d=match c with
  |true=>Ye (Z J) G a b d
  |false=>Ye (Z I) G a b d:=by cases c<;>rfl
theorem gQ(G:Gf)(a:M D)(c:Bool)(o:PO)(es:M SE)(t:ST):ogT (Z (!c)) G o es t a=match c with
  |true=>ogT (Z J) G o es t a
  |false=>ogT (Z I) G o es t a:=by cases c<;>rfl
def eA(b c a:Int):Bool:=Z' (b<=a) && Z' (a<=c)
def ej b c a:eA b c a=I↔b<=a/\a<=c:=by simp[eA]
def adk s i:IntKind.i64.wrap (bY s i)=bY s i:=by have:=mH s i;exact wrap_i64 (by omega)
def g2T(w:Bool):u D->u Bool->u Bool
 |some (.bool b),r=>if b=w then r else Z J
 |_,_=>O
theorem adQ ρ e w p(a:Gs):jM ρ ((e,w)::p::a)=g2T w (e.d ρ) (jM ρ (p::a)):=by simp[jM];cases e.d ρ with|none=>{rfl}|some x=>cases x<;>rfl
theorem alJ r:g2T I (Z (.bool I)) r=r:=(rfl)
theorem alI r:g2T I (Z (.bool J)) r=Z J:=(rfl)
theorem alH r:g2T J (Z (.bool I)) r=Z J:=(rfl)
theorem alG r:g2T J (Z (.bool J)) r=r:=(rfl)
def BG b c:g2T I (Z (.bool b)) (Z c)=Z (b && c):=by cases b<;>rfl
def jO b c:g2T J (Z (.bool b)) (Z c)=Z (!b && c):=by cases b<;>rfl
attribute [go_sem] J6
attribute [go_sem] av au ain adk adQ alJ alI alH alG dr db dC fT dK eJ qS dX fU dB decide_true decide_false Bool.true_eq_false aQ iO cV Option.map_none gO Nat.zero_mod Nat.zero_div
theorem Ew{p q}:∀m i,(∀j,i<=j->j<i+m->p j=q j)->oP p i m=oP q i m
 |0,_,_=>rfl
 |m+1,i,h=>by simp[oP];rw[h i (by omega) (by omega),Ew m (i+1) λj b a=>h j (by omega) (by omega)]
theorem M9{p}:∀{m i},oP p i m=I↔∀j,i<=j->j<i+m->p j=I
 |0,i=>⟨λ_ j b a=>by omega,λ_=>rfl⟩
 |m+1,i=>by simp[oP,M9 (m:=m) (i:=i+1)];grind
abbrev mg:Nat:=268435456
def wj{i n}(h:i<n)(a:n<=mg):IntKind.i64.wrap ((i)+1)=((i+1:Nat):Int):=wi1 h (by simp[mg]at a;omega)
theorem n0:((0:Nat):Int)=0:=(rfl)
theorem n1:((1:Nat):Int)=1:=(rfl)
def agP{b}(h:0<=b/\b<=255):IntKind.i64.wrap b=b:=wrap_i64 (by omega)
end Go.Proofs.YtbnmicpicjmgiaaGreatDoor
