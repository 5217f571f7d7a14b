/- Part of the proof: a machine over plain data, its proof, the functions of the program run on symbols, what they answer. Condition: none. -/
import Derived.Test.YtnnjajingjfjiaaGreatDoorZz19
set_option linter.unusedVariables false
set_option linter.unusedSimpArgs false
set_option linter.unusedSectionVars false
open List renaming cons_append->au,length_map->ay,length_cons->aH,mem_cons->aL,map_cons->aW,mem_append->ba,length_append->bh,map_nil->bD,map_append->bN,mem_cons_of_mem->bP,mem_cons_self->bQ,mem_map->cj,mem_singleton->cT,flatMap_cons->l7
open List.cons renaming sizeOf_spec->bJ
open Nat renaming le_refl->aD,lt_succ_self->aP,zero_le->jt
open Option renaming map_eq_some_iff->ak,getD_some->jo,some->Z
open SizeOf renaming sizeOf->aw
open Bool renaming true->I,false->J
open Decidable renaming decide->Z'
namespace Go.Proofs.YtnnjajingjfjiaaGreatDoor
set_option maxRecDepth 100000
set_option maxHeartbeats 4000000
section
def zC(n:ah)(x:az):M ck:=if n.aq=2 then n.a_.map (λk=>⟨1,k,(eZ x.aa k).getD kU,[]⟩) else []
noncomputable def n6(a b:M az):Bool:=@Z' (a=b) (Classical.propDecidable _)
section
variable (ix:ah->M az->az->u Nat)
def mE(s:M ah)(b:M az)(x:az):M ck:=match dQ s x.aj with
 |some n=>if (ix n b x).isSome=I then [] else [⟨4,n.aj,if n.aq=4 then x.aS else kU,zC n x⟩]
 |none=>[]
noncomputable def HW(f:ah->az->az->M ck)(n:ah)(a y:az):M ck:=
 if n.aq=3 then (if a.aS=y.aS then [] else [⟨2,n.aj,y.aS,[]⟩])
 else if (n.aq=1\/n.aq=2)/\n6 a.aa y.aa=J then [⟨1,n.aj,kU,zC n y++f n a y⟩] else []
noncomputable def pd(f:ah->az->az->M ck)(s:M ah)(a:M az)(y:az):M ck:=match dQ s y.aj with
 |some n=>(match ix n a y with
  |none=>[lO 3 y]
  |some k=>(match nth a k with
   |some b=>HW f n b y
   |none=>[]))
 |none=>[]
noncomputable def kL:Nat->M ah->M az->M az->M ck
 |0,_,_,_=>[]
 |m+1,s,a,b=>a.flatMap (mE ix s b)++b.flatMap (pd ix (λn c y=>kL m n.aa c.aa y.aa) s a)
end
section
variable {ip:z->Bool} {mt:z->z->Bool}
theorem yF{a β:Type}{f g:a->M β}:∀{l:M a},(∀x∈l,f x=g x)->l.flatMap f=l.flatMap g
 |[],_=>rfl
 |x::l,h=>by rw[l7,l7,h x bQ,yF λy b=>h y (bP _ b)]
theorem QE{ix:ah->M az->az->u Nat}(B:∀n l x j y,ix n l x=Z j->nth l j=Z y->y.aj=n.aj){s:M ah}{a b:M az}(w:Rt ip mt (dk s) a)(v:Rt ip mt (dk s) b){y c:az}{n:ah}(q:y∈b)(r:dQ s y.aj=Z n)
  {k:Nat} (t:ix n a y=Z k) (h:nth a k=Z c):Rt ip mt (dk n.aa) c.aa/\Rt ip mt (dk n.aa) y.aa:=by
 obtain⟨j,m,i,A,_⟩:=dy r;have f:=B _ _ _ _ _ t h
 constructor
 ·obtain⟨p,o,e,d,_,g⟩:=vJ w (bc h);rw[f,A,m]at e;cases e;rw[i]at d;cases d;exact g
 ·obtain⟨p,o,e,d,_,g⟩:=vJ v q;rw[m]at e;cases e;rw[i]at d;cases d;exact g
theorem Xu:∀(m:Nat) (s:M ah) (a b:M az),Rt ip mt (dk s) a->Rt ip mt (dk s) b->kL uF m s a b=kL hX m s a b
 |0,_,_,_,_,_=>rfl
 |m+1,s,a,b,f,e=>by
  simp only[kL]
  congr 1
  ·refine yF λx q=>?_;unfold mE;cases d:dQ s x.aj with
   |none=>rfl
   |some n=>
    obtain⟨j,h,g,t,_⟩:=dy d;simp only[adK f e q h g]
  ·refine yF λy i=>?_;unfold pd;cases d:dQ s y.aj with
   |none=>rfl
   |some n=>
    obtain⟨j,h,g,t,_⟩:=dy d;simp only[adK e f i h g];cases r:hX n a y with
    |none=>rfl
    |some k=>
     dsimp only;cases p:nth a k with
     |none=>rfl
     |some c=>
      obtain⟨o,l⟩:=QE IX f e i d r p;simp only[HW,Xu m n.aa c.aa y.aa o l]
end
theorem qc{b β:Type}{g:b->M β}(h:∀x,(g x).length<=1):∀(a:M b),(a.flatMap g).length<=a.length
 |[]=>aD _
 |x::a=>by
  have d:=h x;have c:=qc h a;rw[l7,bh,aH];omega
theorem Kv(n:ah)(x:az):(zC n x).length<=n.a_.length:=by unfold zC;split<;>simp
theorem vW{ix:ah->M az->az->u Nat}{s:M ah}{b:M az}(x:az):(mE ix s b x).length<=1:=by
 unfold mE;split
 ·split<;>simp
 ·simp
theorem Zo{f:ah->az->az->M ck}{n:ah}{a y:az}:(HW f n a y).length<=1:=by
 unfold HW;split
 ·split<;>simp
 ·split<;>simp
theorem Gu{ix:ah->M az->az->u Nat}{f:ah->az->az->M ck}{s:M ah}{a:M az}(y:az):(pd ix f s a y).length<=1:=by
 unfold pd;split
 ·split
  ·simp
  ·split
   ·exact Zo
   ·simp
 ·simp
theorem DK{ix:ah->M az->az->u Nat}{m:Nat}{s:M ah}{a b:M az}:(kL ix m s a b).length<=a.length+b.length:=by
 cases m with
 |zero=>simp[kL]
 |succ m=>
  have e:=qc (g:=mE ix s b) vW a;have d:=qc (g:=pd ix (λn c y=>kL ix m n.aa c.aa y.aa) s a) Gu b;simp only[kL,bh];omega
theorem acj{l:M az}{k v:z}(h:eZ l k=Z v):∃y∈l,y.aS=v:=by
 unfold eZ at h
 split at h
 ·obtain⟨y,b,a⟩:=ak.1 h;exact⟨y,bc b,a⟩
 ·cases h
theorem ack{l:M az}{k:z}:((eZ l k).getD kU).size<=bK aU l:=by
 cases h:eZ l k with
 |none=>exact jt _
 |some v=>
  obtain⟨y,b,rfl⟩:=acj h;have a:=cG aU b;rw[fF]at a;simp only[jo];omega
theorem dw.al5{B t:Nat}:∀{a b:M (M D)},dw B t a->dw B t b->dw B t (a++b)
 |[],_,_,h=>h
 |x::a,b,c,d=>by
  simp only[au,dw]at c ⊢;exact⟨c.1,dw.al5 c.2 d⟩
theorem dw.xP{B t:Nat}{a:Type}{f:a->M D}:∀{l:M a},(∀x∈l,eu B (lay t) (f x))->dw B t (l.map f)
 |[],_=>by simp only[bD,dw]
 |x::l,h=>by
  simp only[aW,dw];exact⟨h x bQ,dw.xP λy b=>h y (bP _ b)⟩
theorem wU{B:Nat}{e:ck}(f:-9223372036854775808<=e.op/\e.op<=9223372036854775807)(d:e.aj.size<=maxLen)(c:e.aS.size<=maxLen)(b:e.aa.length<=B)(a:dw B 3 (e.aa.map cK)):eu B (lay 3) (cK e):=by
 rw[aO];simp only[lay,eu,Ok];exact⟨⟨trivial,f⟩,d,c,⟨rfl,rfl,by rw[ay];exact b,a⟩,trivial⟩
def zH(B:Nat)(l:M ck):Prop:=∀e∈l,eu B (lay 3) (cK e)
theorem zH.app{B:Nat}{a b:M ck}(f:zH B a)(d:zH B b):zH B (a++b):=λe c=>by
 rcases ba.1 c with h|h
 ·exact f e h
 ·exact d e h
theorem zH.flat{B:Nat}{a:Type}{g:a->M ck}{l:M a}(h:∀x∈l,zH B (g x)):zH B (l.flatMap g):=λe b=>by
 obtain⟨x,d,c⟩:=List.mem_flatMap.1 b;exact h x d e c
theorem zH.one{B:Nat}{e:ck}(h:eu B (lay 3) (cK e)):zH B [e]:=λb a=>by
 rw[cT]at a;exact a▸h
theorem zH.nil{B:Nat}:zH B []:=λe a=>by cases a
theorem QX:mg<=maxLen:=by simp only[mg,maxLen];omega
theorem YY{n:ah}{x:az}(a:ee (ax n)<=mg)(d:bK aU x.aa<=mg):zH mg (zC n x):=by
 unfold zC;split
 ·intro e c;obtain⟨k,b,rfl⟩:=cj.1 c;rw[dO]at a;have h:=Mb _ b;have g:=ack (l:=x.aa) (k:=k);have f:=QX;refine wU (by simp) (by dsimp only;omega) (by dsimp only;omega) (by simp) ?_;simp only[bD,dw]
 ·exact zH.nil
theorem abb(op:Int)(i:0<=op/\op<=9)(b:Nat):∀y:az,aw y < b->ee (aU y)<=mg->eu mg (lay 3) (cK (lO op y)):=by
 induction b with
 |zero=>intro y h;omega
 |succ b f=>
  intro y h c;rw[fF]at c;have j:=QX;rw[Ab];refine wU (by dsimp only;omega) (by dsimp only;omega) (by dsimp only;omega) (by rw[ay];simp only[bK]at c;omega) ?_;dsimp only;refine dw.xP λe g=>?_;obtain⟨a,d,rfl⟩:=cj.1 g;refine f a (by have:=az.Kx d;omega) ?_;have:=cG aU d;omega
theorem aer{ix:ah->M az->az->u Nat}(m:Nat):∀{s:M ah} {a b:M az},bK ax s+bK aU a+bK aU b<=mg->zH mg (kL ix m s a b):=by
 induction m with
 |zero=>intro s a b h;exact zH.nil
 |succ m o=>
  intro s a b h;have t:=QX;have k:∀j n,dQ s j=Z n->ee (ax n)<=bK ax s:=λj n h=>by
   obtain⟨_,_,_,_,w⟩:=dy h;have:=cG ax w;have:=lN (es:=s);omega
  refine zH.app (zH.flat λx r=>?_) (zH.flat λy q=>?_)
  ·have g:=cG aU r;rw[fF]at g;unfold mE;split
   ·rename_i n f;have i:=k _ _ f;split
    ·exact zH.nil
    ·have e:=i;rw[dO]at e;refine zH.one (wU (by simp) (by dsimp only;omega) ?_ ?_ ?_)
     ·dsimp only;split
      ·omega
      ·exact jt _
     ·have:=Kv n x;simp only[bK]at e h;dsimp only;omega
     ·exact dw.xP (YY (by omega) (by omega))
   ·exact zH.nil
  ·have d:=cG aU q;rw[fF]at d;unfold pd;split
   ·rename_i n f;have i:=k _ _ f;have e:=i;rw[dO]at e;split
    ·exact zH.one (abb 3 (by decide) _ y (aP _) (by rw[fF];omega))
    ·split
     ·rename_i c p;have l:=cG aU (bc p);rw[fF]at l;have v:=o (s:=n.aa) (a:=c.aa) (b:=y.aa) (by omega);have A:=DK (ix:=ix) (m:=m) (s:=n.aa) (a:=c.aa) (b:=y.aa);unfold HW;split
      ·split
       ·exact zH.nil
       ·exact zH.one (wU (by simp) (by dsimp only;omega) (by dsimp only;omega) (by simp) (by simp only[bD,dw]))
      ·split
       ·refine zH.one (wU (by simp) (by dsimp only;omega) (jt _) ?_ ?_)
        ·have:=Kv n y;dsimp only;rw[bh];simp only[bK]at e h l d;omega
        ·exact dw.xP (zH.app (YY (by omega) (by omega)) v)
       ·exact zH.nil
     ·exact zH.nil
   ·exact zH.nil
theorem LD(e:ck):rf (cK e)=3+aT (e.aa.map cK):=by
 simp only[aO,rf,D.mn];omega
theorem LG(e:ck):aT ([e].map cK)=3+aT (e.aa.map cK):=by
 simp only[aW,bD,aT,LD];omega
theorem LF{g:az->M ck}{C:Nat}:∀{l:M az},(∀x∈l,aT ((g x).map cK)<=C * (1+eS x.aa))->aT ((l.flatMap g).map cK)<=C * eS l
 |[],_=>by simp[aT]
 |x::l,h=>by
  have c:=h x bQ;have b:=LF (l:=l) λy a=>h y (bP _ a);rw[l7,bN,oG,eS,Nat.mul_add];omega
theorem Zn(n:ah)(x:az):aT ((zC n x).map cK)<=3 * n.a_.length:=by
 unfold zC;split
 ·generalize n.a_=a
  induction a with
  |nil=>simp[aT]
  |cons k a b=>
   simp only[aW,aT,LD,bD,aH]at b ⊢;omega
 ·simp[aT]
theorem aca(op:Int)(a:Nat):∀l:M az,aw l < a->aT ((l.map (lO op)).map cK)=3 * eS l:=by
 induction a with
 |zero=>intro l h;omega
 |succ a b=>
  intro l h;cases l with
  |nil=>simp[aT,eS]
  |cons x l=>
   have e:=az.dL x;simp only[bJ]at h;have d:=b l (by omega);have c:=b x.aa (by omega);rw[aW,aW,aT,LD,d,Ab,eS];simp only[c];omega
theorem Xi:∀{l:M az} {x:az},x∈l->1+eS x.aa<=eS l
 |y::l,x,h=>by
  rw[eS];rcases aL.1 h with rfl|h
  ·omega
  ·have:=Xi h;omega
theorem aeq{ix:ah->M az->az->u Nat}(m:Nat):∀{s:M ah} {a b:M az},bK ax s<=mg->eS a<=120->aT ((kL ix m s a b).map cK)<=100663299 * eS a+12180259179 * eS b:=by
 induction m with
 |zero=>intro s a b _ _;simp[kL,aT]
 |succ m o=>
  intro s a b v w;have e:∀i n,dQ s i=Z n->n.a_.length<=mg/\bK ax n.aa<=mg:=λi n h=>by
   obtain⟨_,_,_,_,j⟩:=dy h;have f:=cG ax j;have:=lN (es:=s);rw[dO]at f;simp only[bK]at *;omega
  have f:=LF (g:=mE ix s b) (C:=100663299) (l:=a) (by
   intro x t;unfold mE;split
   ·rename_i n d;split
    ·simp[aT]
    ·have f:=Zn n x;have k:=(e _ _ d).1;rw[LG];simp only[mg]at k;dsimp only;omega
   ·simp[aT])
  have k:=LF (g:=pd ix (λn c y=>kL ix m n.aa c.aa y.aa) s a) (C:=12180259179) (l:=b) (by
   intro y r;unfold pd;split
   ·rename_i n d;split
    ·rw[LG,Ab];dsimp only;rw[aca 3 _ y.aa (aP _)];omega
    ·split
     ·rename_i c p;have B:1+eS c.aa<=120:=by
       have:=Xi (bc p);omega
      have A:=o (s:=n.aa) (a:=c.aa) (b:=y.aa) (e _ _ d).2 (by omega);have j:=Zn n y;have q:=(e _ _ d).1;simp only[mg]at q;unfold HW;split
      ·split
       ·simp[aT]
       ·rw[LG];simp only[bD,aT];omega
      ·split
       ·rw[LG];dsimp only;rw[bN,oG];omega
       ·simp[aT]
     ·simp[aT]
   ·simp[aT])
  simp only[kL,bN,oG];omega
end
end Go.Proofs.YtnnjajingjfjiaaGreatDoor
