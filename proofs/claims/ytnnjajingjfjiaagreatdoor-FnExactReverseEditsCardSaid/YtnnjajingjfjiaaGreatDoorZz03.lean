/- Part of the proof: a machine over plain data, its proof, the functions of the program run on symbols, what they answer. Condition: none. -/
import Derived.Test.YtnnjajingjfjiaaGreatDoorZz02
set_option linter.unusedVariables false
set_option linter.unusedSimpArgs false
open Bool renaming and_eq_true->ai,false_eq_true->aF,not_eq_true'->cq,false_and->cP,true_and->cW,or_eq_true->da,false_ne_true->dq,eq_false_iff->ej,and_true->fZ,false_or->gA,and_assoc->iy,and_self->jm,and_false->kH,or_true->ll,true->I,false->J
open Int renaming toNat_natCast->bW
open List renaming cons_append->au,nil_append->av,length_map->ay,length_cons->aH,length_nil->aJ,append_nil->aK,mem_cons->aL,take_length->aR,map_cons->aW,length_take->aY,mem_append->ba,length_append->bh,sizeOf_lt_of_mem->bj,drop_zero->bm,replicate->bn,getElem?_eq_some_iff->bq,all_eq_true->bw,append_assoc->bB,drop_length->bE,take_append_drop->bI,map_append->bN,mem_cons_of_mem->bP,mem_cons_self->bQ,take_succ_cons->cn,range->cB,nodup_cons->cC,mem_singleton->cT,all_cons->cX,length_drop->dH,getElem?_drop->fI,any_eq_true->kI,mem_filter->nE,drop_drop->oP,take_left->oR,drop_eq_getElem_cons->ub,drop_left->zr
open List.cons renaming injEq->cl
open Nat renaming reduceEqDiff->aA,le_refl->aD,le_trans->aG,zero_add->bo,reduceAdd->bF,add_zero->cd,add_assoc->cQ,blt->fV,zero_le->jt,ble->n8,blt_eq->oh
open Option renaming map_eq_some_iff->ak,map_some->aQ,isSome_iff_exists->cD,bind_some->dW,getD_some->jo,some->Z,none->O
open Option.some renaming injEq->ae,inj->ey
open Prod.mk renaming injEq->aI
open SizeOf renaming sizeOf->aw
open Decidable renaming decide->Z'
namespace Go.Proofs.YtnnjajingjfjiaaGreatDoor
section
def SC.cells:SC->u (M SB)
 | .b x=>Z [x]
 | .agg xs=>Z xs
 |_=>O
def SB.cell:SB->Bool
 | .any=>J
 |_=>I
def acZ{a:Type}(l:M a)(o:Nat)(n:M a):M a:=l.take o++n++l.drop (o+n.length)
def vV:C->u SB
 | .d (.int k n)=>Z (.d (.k (.int k n)))
 | .d (.bool b)=>Z (.d (.k (.bool b)))
 | .d (.str t)=>Z (.d (.k (.str t)))
 | .nil k a=>Z (.nil k a)
 |_=>O
def Ei(S:SS)(d:Gs)(a:M SB):M (Nat×Nat×KX)->u (M SB)
 |[]=>Z a
 |(o,n,x)::e=>match fS S d x with
  |some c=>match c.cells with
   |some b=>if b.length=n/\o+n<=a.length/\b.all SB.cell=I then Ei S d (acZ a o b) e else O
   |none=>O
  |none=>O
def DI(i o:Nat):Nat->M SB
 |0=>[]
 |n+1=>.d (.c i o)::DI i (o+1) n
def vN(n:Nat):SC:=.b (.d (.v n))
def OH(n:Nat)(o:PO):M (u SE)->u (Bs×SC)
 |[Z a]=>Z ([(o,[a])],vN n)
 |[Z a,Z b]=>Z ([(o,[a,b])],vN n)
 |[Z a,Z b,Z c]=>Z ([(o,[a,b,c])],vN n)
 |_=>O
def vR(S:SS)(a:Gs):u KX->u SE
 |none=>Z (.k (.int .i64 0))
 |some x=>sD (fS S a x)
def ac6(S:SS)(a:Gs)(n:Nat):KO->u (Bs×SC)
 | .mv x=>(fS S a x).map λc=>([],c)
 | .pick c x y=>match sD (fS S a c) with
  |some e=>if (e,I)∈a then (fS S a x).map λc=>([],c) else if (e,J)∈a then (fS S a y).map λc=>([],c)
   else OH n .ite [Z e,sD (fS S ((e,I)::a) x),sD (fS S ((e,J)::a) y)]
  |none=>O
 | .build t w=>match gB vV t with
  |some s=>(Ei S a s w).map λl=>([],.agg l)
  |none=>O
 | .ld m x=>match fS S a x with
  |some (.ptr b o)=>match look S.bx b with
   |some f=>if m=0 then (nth f o).map λy=>([],.b y) else if o+m<=f.length then Z ([],.agg ((f.drop o).take m)) else O
   |none=>O
  |some (.vj i o)=>if m=0 then Z ([(.cel o,[.v i])],vN n) else Z ([(.has (o+m),[.v i])],.agg (DI i o m))
  |some (.pQ r k i o)=>match look S.rw r with
   |some row=>if row.k=k then (if m=0 then Z ([(.Wn k o 1 row.deep,[row.e,i]),(.cel o,[.v n])],vN (n+1)) else Z ([(.Wn k o m row.deep,[row.e,i])],.agg (DI n o m))) else O
   |none=>O
  |_=>O
 | .fa o x=>match fS S a x with
  |some (.ptr b p)=>Z ([],.ptr b (p+o))
  |some (.vj i p)=>Z ([],.vj i (p+o))
  |some (.pQ r k i p)=>Z ([],.pQ r k i (p+o))
  |_=>O
 | .ia k x i=>match fS S a x,sD (fS S a i) with
  |some (.b (.d e)),Z j=>Z ([(.el k,[e,j])],.vj n 0)
  |some (.b (.ref r)),Z j=>match look S.rw r with
   |some row=>if row.k=k then Z ([(.Wj,[row.e,j])],.pQ r k j 0) else O
   |none=>O
  |_,_=>O
 | .Z3 x i=>OH n .Z3 [sD (fS S a x),sD (fS S a i)]
 | .bin op x y=>OH n (.bin op) [sD (fS S a x),sD (fS S a y)]
 | .Wi op x y=>OH n (.Wi op) [sD (fS S a x),sD (fS S a y)]
 | .not x=>OH n .not [sD (fS S a x)]
 | .neg x=>OH n .neg [sD (fS S a x)]
 | .conv k x=>OH n (.conv k) [sD (fS S a x)]
 | .len x=>match fS S a x with
  |some (.b (.d e))=>Z ([(.len,[e])],vN n)
  |some (.b (.nil _ _))=>Z ([],.b (.d (.k (.int .i64 0))))
  |some (.b (.ref r))=>match look S.rw r with
   |some row=>Z ([(.len,[row.e])],vN n)
   |none=>O
  |_=>O
 | .sln x=>OH n .sln [sD (fS S a x)]
 | .min x y=>OH n .min [sD (fS S a x),sD (fS S a y)]
 | .max x y=>OH n .max [sD (fS S a x),sD (fS S a y)]
 | .ext x i=>match fS S a x with
  |some (.sh f)=>match nth f i with
   |some (.inl y)=>Z ([],.b y)
   |some (.inr l)=>Z ([],.agg l)
   |none=>O
  |_=>O
 | .slc x q=>OH n (.cut I) [sD (fS S a x),Z (.k (.int .i64 0)),sD (fS S a q)]
 | .VZ x g q=>match q with
  |none=>OH n (.VZ J) [sD (fS S a x),vR S a g]
  |some h=>OH n (.VZ I) [sD (fS S a x),vR S a g,sD (fS S a h)]
 | .AZ k x g q=>match q with
  |none=>OH n (.AZ k J) [sD (fS S a x),vR S a g]
  |some h=>OH n (.AZ k I) [sD (fS S a x),vR S a g,sD (fS S a h)]
 | .nck x=>match fS S a x with
  |some (.ptr b o)=>Z ([],.ptr b o)
  |some (.vj i o)=>Z ([],.vj i o)
  |some (.pQ r k i o)=>Z ([],.pQ r k i o)
  |_=>O
 | .P0 x=>match fS S a x with
  |some (.b (.ref r))=>match look S.rw r with
   |some row=>if row.k=1 then Z ([(.P0,[row.e])],vN n) else O
   |none=>O
  |_=>O
 |_=>O
section
variable {ρ iR:M D} {S:SS} {s:St} {gs:Gs} {bs:Bs} {c:SC}
theorem eO.nth:∀{xs:M SB} {b:M C} {i:Nat} {x:SB},eO ρ xs b->nth xs i=Z x->∃c,nth b i=Z c/\kz ρ x c
 |_::_,_,0,_,⟨c,_,a,e,_⟩,h=>by cases h;subst a;exact⟨c,rfl,e⟩
 |_::xs,_,i+1,_,⟨_,b,a,_,d⟩,h=>by subst a;exact eO.nth (xs:=xs) (i:=i) d h
 |[],_,_,_,_,h=>by cases h
theorem eO.len:∀{a:M SB} {b:M C},eO ρ a b->b.length=a.length
 |[],_,h=>by simp only[eO]at h;subst h;rfl
 |_::_,_,⟨_,_,e,_,d⟩=>by subst e;simp[eO.len d]
theorem eO.drop:∀(n:Nat) {a:M SB} {b:M C},eO ρ a b->eO ρ (a.drop n) (b.drop n)
 |0,_,_,h=>h
 |_+1,[],_,h=>by simp only[eO]at h;subst h;rfl
 |n+1,_::_,_,⟨_,_,e,_,d⟩=>by subst e;exact eO.drop n d
theorem eO.take:∀(n:Nat) {a:M SB} {b:M C},eO ρ a b->eO ρ (a.take n) (b.take n)
 |0,_,_,_=>rfl
 |_+1,[],_,h=>by simp only[eO]at h;subst h;rfl
 |n+1,_::_,_,⟨c,_,f,e,d⟩=>by subst f;exact⟨c,_,rfl,e,eO.take n d⟩
theorem eO.app:∀{b ys:M SB} {e d:M C},eO ρ b e->eO ρ ys d->eO ρ (b++ys) (e++d)
 |[],_,_,_,h,a=>by simp only[eO]at h;subst h;exact a
 |_::_,_,_,_,⟨c,_,i,g,f⟩,a=>by subst i;exact⟨c,_,rfl,g,eO.app f a⟩
theorem eO.yv(o:Nat){a ys:M SB}{e d:M C}(h:eO ρ a e)(b:eO ρ ys d):eO ρ (acZ a o ys) (gG e o d):=by
 unfold acZ gG;rw[b.len];exact ((h.take o).app b).app (h.drop _)
theorem kz.cell{x:SB}{c:C}(h:kz ρ x c)(a:x.cell=I):c.cell=I:=by
 cases x with
 |d e=>obtain⟨y,_,rfl⟩:=h;rfl
 |nil k b=>simp only[kz]at h;subst h;rfl
 |ref r=>simp only[kz]at h;subst h;rfl
 |any=>cases a
theorem eO.cell:∀{a:M SB} {b:M C},eO ρ a b->a.all SB.cell=I->b.all C.cell=I
 |[],_,h,_=>by simp only[eO]at h;subst h;rfl
 |_::_,_,⟨_,_,f,e,d⟩,h=>by
  subst f;simp only[cX,ai]at h ⊢;exact⟨e.cell h.1,eO.cell d h.2⟩
theorem lK.cells{x:SC}{c:C}{a:M SB}(h:lK ρ x c)(d:x.cells=Z a)(e:a.all SB.cell=I):eO ρ a c.cells:=by
 cases x with
 |b y=>
  cases d;simp only[cX,List.all_nil,fZ]at e;refine⟨c,[],?_,h,rfl⟩;have:=kz.cell h e;cases c<;>simp_all[C.cell,C.cells]
 |agg ys=>
  cases d;obtain⟨g,rfl,f⟩:=h;exact f
 |_=>cases d
theorem P7{a:C}{x:SB}(h:vV a=Z x):kz ρ x a:=by
 unfold vV at h
 split at h<;>first|(cases h;exact⟨_,rfl,rfl⟩)|(cases h;rfl)|cases h
theorem yz:∀{b:M C} {d:M SB},gB vV b=Z d->eO ρ d b
 |[],_,h=>by simp only[gB,ae]at h;subst h;rfl
 |a::b,d,h=>by
  simp only[gB]at h
  split at h
  ·rename_i y e;simp only[ak]at h;obtain⟨ys,f,rfl⟩:=h;exact⟨a,b,rfl,P7 e,yz f⟩
  ·cases h
theorem Df(h:Rel ρ S s)(k:jq ρ gs=Z I):∀(e:M (Nat×Nat×KX)) {d l:M SB} {b:M C},Ei S gs d e=Z l->eO ρ d b->∃f,CS b (e.map λp=>(p.1,p.2.1,(fW s p.2.2).cells))=Z f/\eO ρ l f
 |[],d,l,b,a,g=>by cases a;exact⟨b,rfl,g⟩
 |(o,n,x)::e,d,l,b,a,g=>by
  simp only[Ei]at a
  split at a
  ·rename_i c r
   split at a
   ·rename_i ys q
    split at a
    ·rename_i j;obtain⟨j,w,m⟩:=j;have i:=(cV h k r).cells q m;obtain⟨f,v,t⟩:=Df h k e a (g.yv o i);refine⟨f,?_,t⟩;simp only[aW,CS];rw[if_pos ⟨by rw[i.len,j],by rw[g.len];exact w,i.cell m⟩];exact v
    ·cases a
   ·cases a
  ·cases a
theorem vS{i:Nat}{x:D}{a:M D}(b:nth ρ i=Z x)(f:elC x=Z a):∀(n o:Nat),o+n<=a.length->eO ρ (DI i o n) (((a.drop o).take n).map .d)
 |0,o,_=>rfl
 |n+1,o,h=>by
  have e:o < a.length:=by omega
  rw[ub e,cn,aW];exact⟨_,_,rfl,⟨a[o],by simp only[SE.d,b,f,ef];simp[e],rfl⟩,vS b f n (o+1) (by omega)⟩
theorem gJ{n:Nat}{o:PO}{l:M (u SE)}(h:OH n o l=Z (bs,c))(e:n=ρ.length)(f:kY ρ bs=Z iR):∃es a x,l=es.map Z/\iY ρ es=Z a/\aZ o a=Z x/\iR=ρ++[x]/\lK iR c (.d x):=by
 have fin:∀{es:M SE},bs=[(o,es)]->c=vN n->l=es.map Z->∃es a x,l=es.map Z/\iY ρ es=Z a/\aZ o a=Z x/\iR=ρ++[x]/\lK iR c (.d x):=by
  intro es m k j;subst m k;obtain⟨a,x,i,g,b⟩:=eM f;refine⟨es,a,x,j,i,g,b,?_⟩;subst b e;exact⟨x,jX ρ x [],rfl⟩
 unfold OH at h
 split at h
 ·simp only[ae,aI]at h;exact fin h.1.symm h.2.symm rfl
 ·simp only[ae,aI]at h;exact fin h.1.symm h.2.symm rfl
 ·simp only[ae,aI]at h;exact fin h.1.symm h.2.symm rfl
 ·cases h
theorem opD(h:Rel ρ S s)(g:jq ρ gs=Z I):∀(b:M KX) {es:M SE} {ys:M D},b.map (λx=>sD (fS S gs x))=es.map Z->iY ρ es=Z ys->b.map (fW s)=ys.map .d
 |[],es,ys,a,f=>by
  have:es=[]:=by simpa using a.symm
  subst this;cases f;rfl
 |x::b,[],ys,a,f=>by simp at a
 |x::b,e::es,ys,a,f=>by
  simp only[aW,cl]at a;obtain⟨y,m,l,k,rfl⟩:=dE f;obtain⟨n,i,j⟩:=lZ h g a.1;rw[l]at i;cases i;simp only[aW,j,opD h g b a.2 k]
theorem aco(h:Rel ρ S s)(g:jq ρ gs=Z I){x:KX}{es:M SE}{e:M D}(f:[sD (fS S gs x)]=es.map Z)(i:iY ρ es=Z e):∃a,e=[a]/\fW s x=.d a:=by
 have:=opD h g [x] f i;rcases e with _|⟨a,_|⟨b,l⟩⟩
 ·simp at this
 ·simp_all
 ·simp at this
theorem aaD(h:Rel ρ S s)(g:jq ρ gs=Z I){x y:KX}{es:M SE}{e:M D}(f:[sD (fS S gs x),sD (fS S gs y)]=es.map Z)(i:iY ρ es=Z e):∃a b,e=[a,b]/\fW s x=.d a/\fW s y=.d b:=by
 have:=opD h g [x,y] f i;rcases e with _|⟨a,_|⟨b,_|⟨c,l⟩⟩⟩
 ·simp at this
 ·simp at this
 ·simp_all
 ·simp at this
theorem L5(h:Rel ρ S s)(l:jq ρ gs=Z I){lo:u KX}{e:SE}{x:D}{a:Nat}(f:vR S gs lo=Z e)(g:e.d ρ=Z x)(hd:dI x=Z a):∀b,(lo=O->b=0)->tQ s lo b=Z a:=by
 intro b j;cases lo with
 |none=>
  simp only[vR,ae]at f;subst f;cases g;simp only[SK.d,dI]at hd;simp only[tQ,j rfl]
  simpa using hd
 |some y=>
  obtain⟨v,i,n⟩:=lZ h l f;rw[g]at i;cases i;simp only[tQ,n];cases x with
  |int k m=>cases k<;>simp_all[dI]
  |_=>simp[dI]at hd
theorem ly{es:M SE}{a:M D}(h:iY ρ es=Z a):a.length=es.length:=by
 induction es generalizing a with
 |nil=>cases h;rfl
 |cons e es b=>
  obtain⟨x,ys,_,d,rfl⟩:=dE h;simp[b d]
theorem Hg(h:Rel ρ S s)(G:jq ρ gs=Z I){n:Nat}(Q:n=ρ.length){o:KO}(g:ac6 S gs n o=Z (bs,c))(H:kY ρ bs=Z iR):∃v,jf s o=Z v/\lK iR c v:=by
 unfold ac6 at g
 split at g
 ·
  simp only[ak,aI]at g;obtain⟨c',A,rfl,rfl⟩:=g;cases H;exact⟨_,rfl,cV h G A⟩
 ·
  split at g
  ·rename_i e he;obtain⟨cv,L,U⟩:=lZ h G he
   split at g
   ·rename_i V;have:=oB G _ V;rw[L]at this;cases this;simp only[ak,aI]at g;obtain⟨c',A,rfl,rfl⟩:=g;cases H;exact⟨_,by simp only[jf,U,if_true],cV h G A⟩
   ·split at g
    ·rename_i V;have:=oB G _ V;rw[L]at this;cases this;simp only[ak,aI]at g;obtain⟨c',A,rfl,rfl⟩:=g;cases H;exact⟨_,by simp only[jf,U,aF,if_false],cV h G A⟩
    ·obtain⟨es,P,x,A,F,w,R,B⟩:=gJ g Q H;rcases es with _|⟨e0,_|⟨e1,_|⟨e2,_|⟨e3,l⟩⟩⟩⟩<;>simp at A
     obtain⟨rfl,K,X⟩:=A;obtain⟨c0,ys,W,Y,rfl⟩:=dE F;obtain⟨a,zs,g3,g4,rfl⟩:=dE Y;obtain⟨b,g5,rfl⟩:=fj g4;rw[W]at L;cases L;cases cv with
     |bool t=>
      simp only[aZ,ae]at w;cases t with
      |true=>
       have hg':jq ρ ((e,I)::gs)=Z I:=by simp only[jq,W,if_true];exact G
       obtain⟨a',q1,q2⟩:=lZ h hg' K;rw[g3]at q1;cases q1;refine⟨_,by simp only[jf,U,if_true];rfl,?_⟩;rw[q2];simp only[if_true]at w;rw[w];exact B
      |false=>
       have hg':jq ρ ((e,J)::gs)=Z I:=by simp only[jq,W,if_true];exact G
       obtain⟨b',q1,q2⟩:=lZ h hg' X;rw[g5]at q1;cases q1;refine⟨_,by simp only[jf,U];rfl,?_⟩;simp only[aF,if_false]at w ⊢;rw[q2,w];exact B
     |int k m=>simp[aZ]at w
     |str t=>simp[aZ]at w
     |list k fl es=>simp[aZ]at w
  ·cases g
 ·
  split at g
  ·rename_i zs' hz;simp only[ak,aI]at g;obtain⟨l,A,rfl,rfl⟩:=g;cases H;obtain⟨jV,F,w⟩:=Df h G _ A (yz hz);exact⟨_,by simp only[jf,F,aQ],⟨jV,rfl,w⟩⟩
  ·cases g
 ·
  rename_i m x
  split at g
  ·rename_i b o K;have N:=cV h G K;simp only[lK]at N
   split at g
   ·rename_i ys hl;obtain⟨cs,A,F⟩:=h.bx b ys hl
    split at g
    ·rename_i V;simp only[ak,aI]at g;obtain⟨y,w,rfl,rfl⟩:=g;cases H;obtain⟨cv,R,B⟩:=F.nth w;exact⟨cv,by simp only[jf,N,A,if_pos V,R],B⟩
    ·rename_i V
     split at g
     ·rename_i hle;simp only[ae,aI]at g;obtain⟨rfl,rfl⟩:=g;cases H;exact⟨_,by simp only[jf,N,A,if_neg V];rw[if_pos (by rw[F.len];exact hle)],⟨_,rfl,(F.drop o).take m⟩⟩
     ·cases g
   ·cases g
  ·rename_i i o K;obtain⟨el,cs,A,F,w⟩:=cV h G K
   split at g
   ·rename_i V;simp only[ae,aI]at g;obtain⟨rfl,rfl⟩:=g;obtain⟨P,y,R,B,rfl⟩:=eM H;obtain⟨a,L,rfl⟩:=fj R;simp only[SE.d,A,ae]at L;subst L;simp only[aZ,F]at B;refine⟨.d y,?_,⟨y,by subst Q;exact jX ρ y [],rfl⟩⟩;simp only[jf,w,if_pos V];rw[ef,fI,cd,<- ef,B];rfl
   ·rename_i V;simp only[ae,aI]at g;obtain⟨rfl,rfl⟩:=g;obtain⟨P,y,R,B,rfl⟩:=eM H;obtain⟨a,L,rfl⟩:=fj R;simp only[SE.d,A,ae]at L;subst L;simp only[aZ,F]at B
    split at B
    ·rename_i hle;refine⟨_,?_,⟨_,rfl,(vS A F m o hle).mono _⟩⟩;simp only[jf,w,if_neg V];rw[if_pos (by rw[dH];omega)]
    ·cases B
  ·rename_i r k i o K;obtain⟨iv,A,F⟩:=cV h G K
   split at g
   ·rename_i row hl;obtain⟨y,w,es,R,rfl⟩:=h.rw r row hl
    split at g
    ·rename_i hk;subst hk;have key:∀{q:Nat} {el:D},aZ (.Wn row.k o q row.deep) [.list row.k row.fl es,.int .i64 iv]=Z el->∃e,nth es iv.toNat=Z e/\o+q<=row.k/\o+q<=e.length/\(dV ((e.drop o).take q) ||!row.deep)=I/\el=.list 0 J [e]:=by
      intro q el he;simp only[aZ]at he
      split at he
      ·rename_i e gW
       split at he
       ·rename_i T;cases he;exact⟨e,gW,T.2.1,T.2.2.1,T.2.2.2,rfl⟩
       ·cases he
      ·cases he
     split at g
     ·rename_i V;simp only[ae,aI]at g;obtain⟨rfl,rfl⟩:=g;simp only[kY]at H
      split at H
      ·rename_i P HB
       split at H
       ·rename_i el BJ;obtain⟨f,zs,q1,q2,rfl⟩:=dE HB;obtain⟨z2,q3,rfl⟩:=fj q2;rw[R]at q1;cases q1;rw[A]at q3;cases q3;obtain⟨e,e1,e2,e3,e4,rfl⟩:=key BJ
        split at H
        ·rename_i Ms am3
         split at H
         ·rename_i v hv;cases H;obtain⟨w0,w1,rfl⟩:=fj am3;simp only[SE.d,Q,jX,ae]at w1;subst w1;simp only[aZ,elC]at hv;refine⟨.d v,?_,⟨v,by subst Q;have:=jX (ρ++[.list 0 J [e]]) v [];simpa [SE.d] using this,rfl⟩⟩;subst V;simp only[jf,F,w,e1];rw[if_pos ⟨trivial,by simpa using e2,by simpa using e4⟩,if_pos trivial,hv];rfl
         ·cases H
        ·cases H
       ·cases H
      ·cases H
     ·rename_i V;simp only[ae,aI]at g;obtain⟨rfl,rfl⟩:=g;obtain⟨P,el,HB,BJ,rfl⟩:=eM H;obtain⟨f,zs,q1,q2,rfl⟩:=dE HB;obtain⟨z2,q3,rfl⟩:=fj q2;rw[R]at q1;cases q1;rw[A]at q3;cases q3;obtain⟨e,e1,e2,e3,e4,rfl⟩:=key BJ;have aeO:Max.max m 1=m:=by omega
      refine⟨_,?_,⟨_,rfl,vS (x:=.list 0 J [e]) (by rw[Q];exact jX ρ _ []) rfl m o e3⟩⟩;simp only[jf,F,w,e1,aeO];rw[if_pos ⟨trivial,e2,e4⟩,if_neg V]
    ·cases g
   ·cases g
  ·cases g
 ·
  split at g
  ·rename_i b p K;simp only[ae,aI]at g;obtain⟨rfl,rfl⟩:=g;cases H;have N:=cV h G K;simp only[lK]at N;exact⟨_,by simp only[jf,N],rfl⟩
  ·rename_i i p K;simp only[ae,aI]at g;obtain⟨rfl,rfl⟩:=g;cases H;obtain⟨x,cs,A,F,w⟩:=cV h G K;exact⟨_,by simp only[jf,w];rfl,x,cs,A,F,by rw[oP]⟩
  ·rename_i r k i p K;simp only[ae,aI]at g;obtain⟨rfl,rfl⟩:=g;cases H;obtain⟨iv,A,F⟩:=cV h G K;exact⟨_,by simp only[jf,F],iv,A,rfl⟩
  ·cases g
 ·
  split at g
  ·rename_i e j K hj;simp only[ae,aI]at g;obtain⟨rfl,rfl⟩:=g;obtain⟨P,y,R,B,rfl⟩:=eM H;obtain⟨a,zs,L,U,rfl⟩:=dE R;obtain⟨b,h8,rfl⟩:=fj U;obtain⟨a',h9,Mx⟩:=cV h G K;obtain⟨b',UO,jP⟩:=lZ h G hj;rw[L]at h9;cases h9;rw[h8]at UO;cases UO;cases a with
   |list k' fl es=>
    cases b with
    |int kk m=>
     cases kk<;>first|(simp[aZ]at B;done)|skip
     simp only[aZ]at B
     split at B
     ·rename_i T;simp only[ak]at B;obtain⟨el,q1,rfl⟩:=B;exact⟨_,by simp only[jf,Mx,jP];rw[if_pos T,q1];rfl,_,_,by rw[Q];exact jX ρ _ [],rfl,rfl⟩
     ·cases B
    |_=>simp[aZ]at B
   |_=>cases b<;>simp[aZ]at B
  ·rename_i r j K hj
   split at g
   ·rename_i row hl;obtain⟨y,A,es,F,rfl⟩:=h.rw r row hl
    split at g
    ·rename_i hk;simp only[ae,aI]at g;obtain⟨rfl,rfl⟩:=g;obtain⟨P,y,R,B,rfl⟩:=eM H;obtain⟨a,zs,L,U,rfl⟩:=dE R;obtain⟨b,h8,rfl⟩:=fj U;obtain⟨b',UO,jP⟩:=lZ h G hj;rw[F]at L;cases L;rw[h8]at UO;cases UO;have N:=cV h G K;simp only[lK,kz]at N;cases b with
     |int kk m=>
      cases kk<;>first|(simp[aZ]at B;done)|skip
      simp only[aZ]at B
      split at B
      ·rename_i T;exact⟨_,by simp only[jf,N,jP,A];rw[if_pos ⟨T.1,T.2,hk⟩],m,SE.mono _ h8,rfl⟩
      ·cases B
     |_=>simp[aZ]at B
    ·cases g
   ·cases g
  ·cases g
 ·
  obtain⟨es,P,y,A,F,w,rfl,B⟩:=gJ g Q H;obtain⟨a,b,rfl,L,U⟩:=aaD h G A F;refine⟨_,?_,B⟩;simp only[jf,L,U];cases a<;>cases b<;>first|(simp[aZ]at w;done)|skip
  rename_i t k m;cases k<;>first|(simp[aZ]at w;done)|skip
  simp only[aZ]at w
  split at w
  ·rename_i T;cases w;simp only;rw[if_pos T]
  ·cases w
 ·
  obtain⟨es,P,y,A,F,w,rfl,B⟩:=gJ g Q H;obtain⟨a,b,rfl,L,U⟩:=aaD h G A F;refine⟨_,?_,B⟩;simp only[jf,L,U];simp only[aZ]at w;unfold asD at w
  split at w
  ·rename_i f hz;cases w;exact hz
  ·cases w
 ·
  obtain⟨es,P,y,A,F,w,rfl,B⟩:=gJ g Q H;obtain⟨a,b,rfl,L,U⟩:=aaD h G A F;refine⟨_,?_,B⟩;simp only[jf,L,U];cases a<;>cases b<;>first|(simp[aZ]at w;done)|skip
  simp only[aZ]at w;simp only[w,aQ]
 ·
  obtain⟨es,P,y,A,F,w,rfl,B⟩:=gJ g Q H;obtain⟨a,rfl,L⟩:=aco h G A F;refine⟨_,?_,B⟩;simp only[jf,L];cases a<;>first|(simp[aZ]at w;done)|skip
  simp only[aZ,ae]at w;simp only[w]
 ·
  obtain⟨es,P,y,A,F,w,rfl,B⟩:=gJ g Q H;obtain⟨a,rfl,L⟩:=aco h G A F;refine⟨_,?_,B⟩;simp only[jf,L];cases a<;>first|(simp[aZ]at w;done)|skip
  simp only[aZ,ae]at w;simp only[w]
 ·
  obtain⟨es,P,y,A,F,w,rfl,B⟩:=gJ g Q H;obtain⟨a,rfl,L⟩:=aco h G A F;refine⟨_,?_,B⟩;simp only[jf,L];cases a<;>first|(simp[aZ]at w;done)|skip
  simp only[aZ,ae]at w;simp only[w]
 ·
  split at g
  ·rename_i e K;simp only[ae,aI]at g;obtain⟨rfl,rfl⟩:=g;obtain⟨P,y,R,B,rfl⟩:=eM H;obtain⟨a,L,rfl⟩:=fj R;obtain⟨a',h9,Mx⟩:=cV h G K;rw[L]at h9;cases h9;refine⟨.d y,?_,y,by subst Q;exact jX ρ y [],rfl⟩;simp only[jf,Mx];cases a<;>first|(simp[aZ]at B;done)|skip
   simp only[aZ,ae]at B;simp only[B]
  ·rename_i k fl K;simp only[ae,aI]at g;obtain⟨rfl,rfl⟩:=g;cases H;have N:=cV h G K;simp only[lK,kz]at N;exact⟨_,by simp only[jf,N];rfl,_,rfl,rfl⟩
  ·rename_i r K
   split at g
   ·rename_i row hl;obtain⟨y,A,es,F,rfl⟩:=h.rw r row hl;simp only[ae,aI]at g;obtain⟨rfl,rfl⟩:=g;obtain⟨P,y,R,B,rfl⟩:=eM H;obtain⟨a,L,rfl⟩:=fj R;rw[F]at L;cases L;have N:=cV h G K;simp only[lK,kz]at N;simp only[aZ,ae]at B;exact⟨.d y,by simp only[jf,N,A,<- B],y,by subst Q;exact jX ρ y [],rfl⟩
   ·cases g
  ·cases g
 ·
  obtain⟨es,P,y,A,F,w,rfl,B⟩:=gJ g Q H;obtain⟨a,rfl,L⟩:=aco h G A F;refine⟨_,?_,B⟩;simp only[jf,L];cases a<;>first|(simp[aZ]at w;done)|skip
  simp only[aZ,ae]at w;simp only[w]
 ·
  obtain⟨es,P,y,A,F,w,rfl,B⟩:=gJ g Q H;obtain⟨a,b,rfl,L,U⟩:=aaD h G A F;refine⟨_,?_,B⟩;simp only[jf,L,U];cases a<;>cases b<;>first|(simp[aZ]at w;done)|skip
  rename_i k1 a k2 b;cases k1<;>cases k2<;>first|(simp[aZ]at w;done)|skip
  simp only[aZ,ae]at w;simp only[w]
 ·
  obtain⟨es,P,y,A,F,w,rfl,B⟩:=gJ g Q H;obtain⟨a,b,rfl,L,U⟩:=aaD h G A F;refine⟨_,?_,B⟩;simp only[jf,L,U];cases a<;>cases b<;>first|(simp[aZ]at w;done)|skip
  rename_i k1 a k2 b;cases k1<;>cases k2<;>first|(simp[aZ]at w;done)|skip
  simp only[aZ,ae]at w;simp only[w]
 ·
  split at g
  ·rename_i ys K;obtain⟨cs,A,F⟩:=cV h G K;have key:∀{ys:M (SB ⊕ M SB)} {cs:M C} (i:Nat),vK ρ ys cs->(∀y,nth ys i=Z (.inl y)->∃c,nth cs i=Z c/\kz ρ y c)/\(∀l,nth ys i=Z (.inr l)->∃ds,nth cs i=Z (.agg ds)/\eO ρ l ds):=by
    intro ys
    induction ys with
    |nil=>intro cs i _;exact⟨λ_ h=>by simp[nth]at h,λ_ h=>by simp[nth]at h⟩
    |cons y ys ih=>
     intro cs i N;cases y with
     |inl y=>
      obtain⟨c,jV,rfl,W,Y⟩:=N;cases i with
      |zero=>exact⟨λf hz=>by cases hz;exact⟨c,rfl,W⟩,λl hl=>by cases hl⟩
      |succ i=>exact ih i Y
     |inr l=>
      obtain⟨ds,jV,rfl,W,Y⟩:=N;cases i with
      |zero=>exact⟨λf hz=>(by cases hz),λl hl=>by cases hl;exact⟨ds,rfl,W⟩⟩
      |succ i=>exact ih i Y
   split at g
   ·rename_i y X;simp only[ae,aI]at g;obtain⟨rfl,rfl⟩:=g;cases H;obtain⟨cv,w,R⟩:=(key _ F).1 y X;exact⟨cv,by simp only[jf,A,w],R⟩
   ·rename_i l X;simp only[ae,aI]at g;obtain⟨rfl,rfl⟩:=g;cases H;obtain⟨ds,w,R⟩:=(key _ F).2 l X;exact⟨_,by simp only[jf,A,w],⟨ds,rfl,R⟩⟩
   ·cases g
  ·cases g
 ·
  obtain⟨es,P,y,A,F,w,rfl,B⟩:=gJ g Q H;rcases es with _|⟨e0,_|⟨e1,_|⟨e2,_|⟨e3,l⟩⟩⟩⟩<;>simp at A
  obtain⟨K,rfl,X⟩:=A;obtain⟨a,ys,W,Y,rfl⟩:=dE F;obtain⟨f,zs,g3,g4,rfl⟩:=dE Y;obtain⟨b,g5,rfl⟩:=fj g4;cases g3;obtain⟨a',q1,q2⟩:=lZ h G K;obtain⟨b',q3,q4⟩:=lZ h G X;rw[W]at q1;cases q1;rw[g5]at q3;cases q3;refine⟨_,?_,B⟩;cases a<;>first|(simp[aZ]at w;done)|skip
  cases b<;>first|(simp[aZ,dI,SK.d]at w;done)|skip
  rename_i k m;cases k<;>first|(simp[aZ,dI,SK.d]at w;done)|skip
  simp only[aZ,dI,SK.d,Int.le_refl,if_true,Int.toNat_zero]at w
  split at w
  ·rename_i a b ha lI;cases ha
   split at lI
   ·rename_i V;cases lI
    split at w
    ·rename_i T;cases w;simp only[jf,q2,q4];rw[if_pos ⟨V,T.2⟩,bm]
    ·cases w
   ·cases lI
  ·cases w
 ·
  split at g
  ·obtain⟨es,P,y,A,F,w,rfl,B⟩:=gJ g Q H;rcases es with _|⟨e0,_|⟨e1,_|⟨e2,l⟩⟩⟩<;>simp at A
   obtain⟨K,X⟩:=A;obtain⟨a,ys,W,Y,rfl⟩:=dE F;obtain⟨f,g3,rfl⟩:=fj Y;obtain⟨a',q1,q2⟩:=lZ h G K;rw[W]at q1;cases q1;refine⟨_,?_,B⟩;cases a<;>first|(simp[aZ]at w;done)|skip
   simp only[aZ]at w
   split at w
   ·rename_i a ha;have Px:=L5 h G X g3 ha 0 (λ_=>rfl)
    split at w
    ·rename_i T;cases w;simp only[jf,q2,Px];simp only[tQ];rw[if_pos ⟨T,aD _⟩]
    ·cases w
   ·cases w
  ·obtain⟨es,P,y,A,F,w,rfl,B⟩:=gJ g Q H;rcases es with _|⟨e0,_|⟨e1,_|⟨e2,_|⟨e3,l⟩⟩⟩⟩<;>simp at A
   obtain⟨K,X,hz⟩:=A;obtain⟨a,ys,W,Y,rfl⟩:=dE F;obtain⟨f,zs,g3,g4,rfl⟩:=dE Y;obtain⟨b,g5,rfl⟩:=fj g4;obtain⟨a',q1,q2⟩:=lZ h G K;rw[W]at q1;cases q1;refine⟨_,?_,B⟩;cases a<;>first|(simp[aZ]at w;done)|skip
   simp only[aZ]at w
   split at w
   ·rename_i a b ha lI;have Px:=L5 h G X g3 ha 0 (λ_=>rfl)
    split at w
    ·rename_i T;cases w;have hhi:=λf=>L5 (lo:=Z _) h G hz g5 lI f (λh=>by cases h);simp only[jf,q2,Px,hhi];rw[if_pos T]
    ·cases w
   ·cases w
 ·
  split at g
  ·obtain⟨es,P,y,A,F,w,rfl,B⟩:=gJ g Q H;rcases es with _|⟨e0,_|⟨e1,_|⟨e2,l⟩⟩⟩<;>simp at A
   obtain⟨K,X⟩:=A;obtain⟨a,ys,W,Y,rfl⟩:=dE F;obtain⟨f,g3,rfl⟩:=fj Y;obtain⟨a',q1,q2⟩:=lZ h G K;rw[W]at q1;cases q1;refine⟨_,?_,B⟩;cases a<;>first|(simp[aZ]at w;done)|skip
   simp only[aZ]at w
   split at w
   ·rename_i a ha;have Px:=L5 h G X g3 ha 0 (λ_=>rfl)
    split at w
    ·rename_i T;cases w;simp only[jf,q2,Px];simp only[tQ];rw[if_pos ⟨T.1,T.2,aD _⟩,aR]
    ·cases w
   ·cases w
  ·obtain⟨es,P,y,A,F,w,rfl,B⟩:=gJ g Q H;rcases es with _|⟨e0,_|⟨e1,_|⟨e2,_|⟨e3,l⟩⟩⟩⟩<;>simp at A
   obtain⟨K,X,hz⟩:=A;obtain⟨a,ys,W,Y,rfl⟩:=dE F;obtain⟨f,zs,g3,g4,rfl⟩:=dE Y;obtain⟨b,g5,rfl⟩:=fj g4;obtain⟨a',q1,q2⟩:=lZ h G K;rw[W]at q1;cases q1;refine⟨_,?_,B⟩;cases a<;>first|(simp[aZ]at w;done)|skip
   simp only[aZ]at w
   split at w
   ·rename_i a b ha lI;have Px:=L5 h G X g3 ha 0 (λ_=>rfl)
    split at w
    ·rename_i T;cases w;have hhi:=λf=>L5 (lo:=Z _) h G hz g5 lI f (λh=>by cases h);simp only[jf,q2,Px,hhi];rw[if_pos T]
    ·cases w
   ·cases w
 ·
  split at g
  ·rename_i b p K;simp only[ae,aI]at g;obtain⟨rfl,rfl⟩:=g;cases H;have N:=cV h G K;simp only[lK]at N;exact⟨_,by simp only[jf,N],rfl⟩
  ·rename_i i p K;simp only[ae,aI]at g;obtain⟨rfl,rfl⟩:=g;cases H;obtain⟨x,cs,A,F,w⟩:=cV h G K;exact⟨_,by simp only[jf,w],x,cs,A,F,rfl⟩
  ·rename_i r k i p K;simp only[ae,aI]at g;obtain⟨rfl,rfl⟩:=g;cases H;obtain⟨iv,A,F⟩:=cV h G K;exact⟨_,by simp only[jf,F],iv,A,rfl⟩
  ·cases g
 ·
  split at g
  ·rename_i r K
   split at g
   ·rename_i row hl;obtain⟨y,A,es,F,rfl⟩:=h.rw r row hl
    split at g
    ·rename_i hk;simp only[ae,aI]at g;obtain⟨rfl,rfl⟩:=g;obtain⟨P,y,R,B,rfl⟩:=eM H;obtain⟨a,L,rfl⟩:=fj R;rw[F]at L;cases L;have N:=cV h G K;simp only[lK,kz]at N;rw[hk]at B;simp only[aZ]at B;refine⟨.d y,?_,y,by subst Q;exact jX ρ y [],rfl⟩;simp only[jf,N,A];rw[if_pos hk];rw[ak]at B ⊢;obtain⟨zs,z1,z2⟩:=B;exact⟨zs,z1,by rw[z2]⟩
    ·cases g
   ·cases g
  ·cases g
 ·cases g
end
end
section
def rk(S:SS):M SB->u (M SE×M SE×Bool×SS)
 |[]=>Z ([],[],I,S)
 | .d e::xs=>match e with
  | .k (.nil _ _)=>O
  | .k x=>(rk S xs).map λp=>(.k x::p.1,p.2.1,p.2.2.1,p.2.2.2)
  |e=>(rk S xs).map λp=>(e::p.1,e::p.2.1,p.2.2.1,p.2.2.2)
 | .nil k a::xs=>(rk S xs).map λp=>(.k (.nil k a)::p.1,p.2.1,p.2.2.1,p.2.2.2)
 | .ref r::xs=>match look S.rw r with
  |some x=>(rk (S.dd r) xs).map λp=>(x.e::p.1,p.2.1,x.deep && !x.fz && p.2.2.1,p.2.2.2)
  |none=>O
 | .any::_=>O
def se(k:Nat):SS->M SC->u (M SE×M SE×Bool×SS)
 |S,[]=>Z ([],[],I,S)
 |S,c::cs=>match c.cells with
  |some a=>if a.all SB.cell=I then (match rk S a with
   |some p=>if p.1.length=k then (se k p.2.2.2 cs).map λq=>(p.1++q.1,p.2.1++q.2.1,p.2.2.1 && q.2.2.1,q.2.2.2) else O
   |none=>O) else O
  |none=>O
def JJ(a:M D):M SC->M C->Prop
 |[],cs=>cs=[]
 |x::xs,cs=>∃c b,cs=c::b/\lK a x c/\JJ a xs b
section
variable {ρ iR:M D} {S:SS} {s:St} {gs:Gs}
theorem rU:∀{es fs:M SE} {b ys:M D},iY ρ es=Z b->iY ρ fs=Z ys->iY ρ (es++fs)=Z (b++ys)
 |[],_,_,_,h,a=>by cases h;exact a
 |e::es,_,_,_,h,a=>by
  obtain⟨x,ys,d,c,rfl⟩:=dE h;simp only[au,iY,d,rU c a,aQ]
theorem IJ:∀{es fs:M SE} {c a:M D},iY ρ es=Z c->iY ρ (es++fs)=Z a->∃ys,a=c++ys/\iY ρ fs=Z ys
 |[],_,_,a,h,b=>by cases h;exact⟨a,rfl,b⟩
 |e::es,_,_,_,h,b=>by
  obtain⟨x,ys,k,j,rfl⟩:=dE h;obtain⟨m,l,d,i,rfl⟩:=dE (es:=es++_) b;rw[k]at d;cases d;obtain⟨f,rfl,g⟩:=IJ j i;exact⟨f,rfl,g⟩
theorem Af(a:M D):∀{es:M SE} {b:M D},iY ρ es=Z b->iY (ρ++a) es=Z b
 |[],_,h=>by cases h;rfl
 |e::es,_,h=>by
  obtain⟨x,ys,d,c,rfl⟩:=dE h;simp only[iY,SE.mono a d,Af a c,aQ]
theorem pf(x:D)(a:M D):dV (x::a)=(x.plain && dV a):=rfl
theorem za(a ys:M D):dV (a++ys)=(dV a && dV ys):=List.all_append
theorem Ss:∀{B:M SB} {U:M C} {S A:SS} {s:St} {es pl:M SE} {q:Bool},Rel ρ S s->eO ρ B U->rk S B=Z (es,pl,q,A)->
  ∃m l g,HA s U=Z (m,q && dV l,g)/\iY ρ es=Z m/\iY ρ pl=Z l/\Rel ρ A g:=by
 intro B
 induction B with
 |nil=>
  intro U S A s es pl q h R f;simp only[eO]at R;subst R;simp only[rk,ae,aI]at f;obtain⟨rfl,rfl,rfl,rfl⟩:=f;exact⟨[],[],s,rfl,rfl,rfl,h⟩
 |cons x B Q=>
  intro U S A s es pl q h R f;obtain⟨c,X,rfl,N,T⟩:=R;have w:∀{e:SE},x=.d e->(rk S B).map (λp=>(e::p.1,e::p.2.1,p.2.2.1,p.2.2.2))=Z (es,pl,q,A)->∃m l g,HA s (c::X)=Z (m,q && dV l,g)/\iY ρ es=Z m/\iY ρ pl=Z l/\Rel ρ A g:=by
   intro e he tm;subst he;obtain⟨⟨a1,a2,a3,a4⟩,F,o⟩:=ak.1 tm;simp only[aI]at o;obtain⟨rfl,rfl,rfl,rfl⟩:=o;obtain⟨y,P,rfl⟩:=N;obtain⟨m,l,g,L,K,H,G⟩:=Q h T F;refine⟨y::m,y::l,g,?_,by simp only[iY,P,K,aQ],by simp only[iY,P,H,aQ],G⟩;simp only[HA,L,aQ,pf,ae,aI,true_and,and_true];cases D.plain y<;>simp
  cases x with
  |d e=>
   cases e with
   |v i=>exact w rfl f
   |c i j=>exact w rfl f
   |k a=>
    have V:∀{y:D},a.d=y->D.plain y=I->(rk S B).map (λp=>(SE.k a::p.1,p.2.1,p.2.2.1,p.2.2.2))=Z (es,pl,q,A)->∃m l g,HA s (c::X)=Z (m,q && dV l,g)/\iY ρ es=Z m/\iY ρ pl=Z l/\Rel ρ A g:=by
     intro y P hp f;obtain⟨⟨a1,a2,a3,a4⟩,F,o⟩:=ak.1 f;simp only[aI]at o;obtain⟨rfl,rfl,rfl,rfl⟩:=o;obtain⟨y',W,rfl⟩:=N;simp only[SE.d,ae]at W;rw[P]at W;subst W;obtain⟨m,l,g,L,K,H,G⟩:=Q h T F;exact⟨y::m,l,g,by simp only[HA,L,aQ,hp,cW],by simp only[iY,SE.d,P,K,aQ],H,G⟩
    cases a with
    |nil k Y=>cases f
    |int k n=>exact V rfl rfl f
    |bool b=>exact V rfl rfl f
    |str t=>exact V rfl rfl f
  |nil k Y=>
   obtain⟨⟨a1,a2,a3,a4⟩,F,o⟩:=ak.1 f;simp only[aI]at o;obtain⟨rfl,rfl,rfl,rfl⟩:=o;simp only[kz]at N;subst N;obtain⟨m,l,g,L,K,H,G⟩:=Q h T F;exact⟨D.list k Y []::m,l,g,by simp only[HA,L,aQ],by simp only[iY,SE.d,SK.d,K,aQ],H,G⟩
  |ref r=>
   simp only[rk]at f
   split at f
   ·rename_i row hl;obtain⟨⟨a1,a2,a3,a4⟩,F,o⟩:=ak.1 f;simp only[aI]at o;obtain⟨rfl,rfl,rfl,rfl⟩:=o;simp only[kz]at N;subst N;obtain⟨y,q1,jJ,q2,rfl⟩:=h.rw r row hl;obtain⟨m,l,g,L,K,H,G⟩:=Q (h.dd r) T F;exact⟨D.list row.k row.fl jJ::m,l,g,by simp only[HA,q1,L,aQ,iy],by simp only[iY,q2,K,aQ],H,G⟩
   ·cases f
  |any=>cases f
theorem ID:∀{i:M C} {s j:St} {f:M D} {g:Bool},HA s i=Z (f,g,j)->dV f=I->g=I:=by
 intro i
 induction i with
 |nil=>intro s j f g h _;simp only[HA,ae,aI]at h;exact h.2.1.symm
 |cons c i l=>
  intro s j f g h b;cases c with
  |d x=>
   obtain⟨⟨a1,a2,a3⟩,e,a⟩:=ak.1 h;simp only[aI]at a;obtain⟨rfl,rfl,rfl⟩:=a;rw[pf,ai]at b;rw[b.1,l e b.2];rfl
  |nil k m=>
   obtain⟨⟨a1,a2,a3⟩,e,a⟩:=ak.1 h;simp only[aI]at a;obtain⟨rfl,rfl,rfl⟩:=a;rw[pf,ai]at b;exact l e b.2
  |ref r=>
   simp only[HA]at h
   split at h
   ·obtain⟨⟨a1,a2,a3⟩,e,a⟩:=ak.1 h;simp only[aI]at a;obtain⟨rfl,rfl,rfl⟩:=a;rw[pf,ai]at b;exact absurd b.1 (by simp[D.plain])
   ·cases h
  |ptr _ _=>cases h
  |pQ _ _ _ _=>cases h
  |vj _=>cases h
  |agg _=>cases h
  |sh _=>cases h
  |vz=>cases h
  |any=>cases h
theorem XD{k:Nat}{fl:Bool}:∀{e:M SC} {j:M C} {S r:SS} {s:St} {es pl:M SE} {q:Bool} {o:M D} {i:M (M D)},Rel ρ S s->JJ ρ e j->se k S e=Z (es,pl,q,r)->
  iY ρ es=Z o->chunk k e.length o=Z i->(fl=I->i.all dV=I)->∃m l,EI k fl s j=Z (i,q && dV m,l)/\iY ρ pl=Z m/\Rel ρ r l:=by
 intro e
 induction e with
 |nil=>
  intro j S r s es pl q o i h n a F g f;simp only[JJ]at n;subst n;simp only[se,ae,aI]at a;obtain⟨rfl,rfl,rfl,rfl⟩:=a;cases F;cases g;exact⟨[],s,rfl,rfl,h⟩
 |cons c e Q=>
  intro j S r s es pl q o i h n a F g f;obtain⟨v,fx,rfl,A,y⟩:=n;simp only[se]at a
  split at a
  ·rename_i xs R
   split at a
   ·rename_i N
    split at a
    ·rename_i p U;obtain⟨p1,p2,P,p4⟩:=p;simp only at a
     split at a
     ·rename_i V;obtain⟨⟨a1,a2,a3,a4⟩,W,H⟩:=ak.1 a;simp only[aI]at H;obtain⟨rfl,rfl,rfl,rfl⟩:=H;obtain⟨b,x,s1,g1,K,Y,X⟩:=Ss h (A.cells R N) U;have t:b.length=k:=by rw[ly K,V]
      have Wt:=IJ K F;obtain⟨d,rfl,B⟩:=Wt;simp only[aH,chunk,bh,t]at g;rw[if_pos (by omega)]at g;obtain⟨amm,G,rfl⟩:=ak.1 g;have T:(b++d).take k=b:=by rw[<- t];exact oR
      have hd:(b++d).drop k=d:=by rw[<- t];exact zr
      rw[hd]at G;rw[T]at f ⊢;simp only[cX,ai]at f;obtain⟨m,l,q1,q2,L⟩:=Q X y W B G (λw=>(f w).2);refine⟨x++m,l,?_,rU Y q2,L⟩;simp only[EI,g1];rw[if_pos ⟨t,λw=>(f w).1⟩,q1];simp only[aQ,za,ae,aI,true_and,and_true];cases P<;>cases a3<;>simp
     ·cases a
    ·cases a
   ·cases a
  ·cases a
end
end
section
def agJ:D->u SK
 | .int k n=>Z (.int k n)
 | .bool b=>Z (.bool b)
 | .str t=>Z (.str t)
 | .list k a []=>Z (.nil k a)
 |_=>O
def SB.iz(q i:Nat):SB->SB
 | .ref r=>if r=q then .ref i else if r=i then .any else .ref r
 |x=>x
def SC.iz(q i:Nat):SC->SC
 | .b x=>.b (x.iz q i)
 | .agg xs=>.agg (xs.map (SB.iz q i))
 | .sh xs=>.sh (xs.map λ| .inl x=>.inl (x.iz q i) | .inr l=>.inr (l.map (SB.iz q i)))
 | .pQ r k a o=>if r=q then .pQ i k a o else if r=i then .any else .pQ r k a o
 |x=>x
def SS.iz(S:SS)(q i:Nat)(row:SR):SS:=⟨S.sl.map λp=>(p.1,⟨p.2.gs,p.2.c.iz q i⟩),S.bx.map λp=>(p.1,p.2.map (SB.iz q i)),(i,row)::ti (ti S.rw q) i⟩
def JC(S:SS)(a:Gs):M KX->u (M SC)
 |[]=>Z []
 |x::xs=>match fS S a x with
  |some c=>(JC S a xs).map (c::·)
  |none=>O
def acs(hint:M Nat)(d:Nat)(a b:Bool)(pl:M SE):Bs×Bool:=
 if a=I then ([],I) else if b=J then ([],J) else match pl with
  |[]=>([],I)
  |pl=>if hint.contains (1000 * d+pl.length) then ([(.Ww,pl)],J) else ([(.pl,pl)],I)
def Rv(S:SS)(k:Nat)(a:Bool):SC->u (SE×Bool×SS)
 | .b (.d e)=>Z (e,a,S)
 | .b (.nil _ _)=>Z (.k (.nil k a),I,S)
 | .b (.ref q)=>match look S.rw q with
  |some row=>if row.k=k/\row.fl=a then Z (row.e,(row.deep && !row.fz) ||a,S.dd q) else O
  |none=>O
 |_=>O
def aa3(S:SS)(a:Gs)(e:SE)(b c:u KX):u (PO×M SE):=
 match c with
 |none=>match vR S a b with
  |some l=>Z (.cut J,[e,l])
  |none=>O
 |some h=>match vR S a b,sD (fS S a h) with
  |some l,Z h=>Z (.cut I,[e,l,h])
  |_,_=>O
def qn(hint:M Nat)(S:SS)(g:Gs)(n:Nat)(d:u Nat):KO->u (Bs×SS)
 | .alloc t=>match d,gB vV t with
  |some b,Z j=>Z ([],(S.lY b j).put d ⟨[],.ptr b 0⟩)
  |_,_=>O
 | .box x=>match d,fS S g x with
  |some b,Z c=>match c.cells with
   |some j=>if j.all SB.cell=I then Z ([],(S.lY b (j.map (SB.kill b))).put d ⟨[],.ptr b 0⟩) else O
   |none=>O
  |_,_=>O
 | .vn k h j=>match d,JC S g j with
  |some r,Z cs=>match se k S cs with
   |some p=>if 0 < k then (match acs hint r h p.2.2.1 p.2.1 with
    |(C,deep)=>Z (C++[(.sV k h,p.1)],(p.2.2.2.newRow r ⟨.v (n+C.length),k,h,deep,I,J⟩).put d ⟨[],.b (.ref r)⟩)) else O
   |none=>O
  |_,_=>O
 | .make k l h t x=>match d,sD (fS S g x),gB agJ t with
  |some r,Z e,Z F=>Z ([(.make k l h F,[e])],(S.newRow r ⟨.v n,k,h,I,I,J⟩).put d ⟨[],.b (.ref r)⟩)
  |_,_,_=>O
 | .st m x y=>match fS S g x,fS S g y with
  |some (.ptr b o),Z c=>match look S.bx b,c.cells with
   |some j,Z ys=>if ys.all SB.cell=I/\ys.length=m/\o+m<=j.length then Z ([],S.fY b (acZ j o ys)) else O
   |_,_=>O
  |some (.pQ r k i o),Z c=>match c.cells with
   |some ys=>match rk S ys with
    |some p=>match look p.2.2.2.rw r with
     |some row=>if ys.all SB.cell=I/\row.k=k/\row.fz=J/\row.app=I/\p.1.length=m/\o+m<=k/\(p.2.2.1 ||!row.deep ||row.fl)=I then
       Z (if row.fl ||!row.deep then ([(.set o,row.e::i::p.1)],p.2.2.2.setRow r ⟨.v n,row.k,row.fl,row.deep,row.app,row.fz⟩)
        else ([(.pl,p.2.1),(.set o,row.e::i::p.1)],p.2.2.2.setRow r ⟨.v (n+1),row.k,row.fl,row.deep,row.app,row.fz⟩)) else O
     |none=>O
    |none=>O
   |none=>O
  |_,_=>O
 | .app k l h x y=>match d,fS S g y with
  |some d0,Z c=>match Rv S k h c with
   |some p=>match fS S g x with
    |some (.b (.nil s D))=>if s=k/\D=h then Z ([(.app k l,[.k (.nil k h),p.1])],(p.2.2.newRow d0 ⟨.v n,k,h,p.2.1,I,J⟩).put d ⟨[],.b (.ref d0)⟩) else O
    |some (.b (.ref r))=>match look p.2.2.rw r with
     |some row=>if row.k=k/\row.fl=h/\row.app=I then Z ([(.app k l,[row.e,p.1])],(p.2.2.newRow r ⟨.v n,row.k,row.fl,row.deep && p.2.1,row.app,row.fz⟩).put d ⟨[],.b (.ref r)⟩) else O
     |none=>O
    |_=>O
   |none=>O
  |_,_=>O
 | .cut k x w B=>match d,fS S g x with
  |some _,Z (.b (.nil s h))=>match aa3 S g (.k (.nil k h)) w B with
   |some b=>if s=k then Z ([b],S.put d ⟨[],.b (.nil s h)⟩) else O
   |none=>O
  |some _,Z (.b (.ref r))=>match look S.rw r with
   |some row=>match aa3 S g row.e w B with
    |some b=>if row.k=k/\row.fz=J then Z ([b],(S.newRow r ⟨.v n,row.k,row.fl,row.deep,row.app && w.isNone,row.fz⟩).put d ⟨[],.b (.ref r)⟩) else O
    |none=>O
   |none=>O
  |_,_=>O
 | .Iy k x y=>match d,fS S g x,sD (fS S g y) with
  |some _,Z (.b (.ref r)),Z e=>match look S.rw r with
   |some row=>if row.k=k/\row.fl=I/\row.fz=J/\row.app=I then Z ([(.Iy,[row.e,e]),(.len,[.v n])],(S.setRow r ⟨.v n,row.k,row.fl,row.deep,row.app,row.fz⟩).put d ⟨[],vN (n+1)⟩) else O
   |none=>O
  |_,_,_=>O
 | .TI x=>match d,fS S g x with
  |some d0,Z (.b (.ref q))=>match look S.rw q with
   |some row=>Z ([],(S.iz q (yc d0 0) row).put d ⟨[],.b (.ref (yc d0 0))⟩)
   |none=>O
  |some _,Z (.b (.nil k h))=>Z ([],S.put d ⟨[],.b (.nil k h)⟩)
  |some _,Z (.b (.d e))=>Z ([],S.put d ⟨[],.b (.d e)⟩)
  |_,_=>O
 | .jn x y=>match d,fS S g x,fS S g y with
  |some _,Z (.b (.ref r)),Z c=>match look S.rw r with
   |some row=>if row.k=1/\row.fl=I/\row.fz=J/\row.app=I then (match c with
    | .b (.d e)=>Z ([(.jnl,[row.e,e]),(.jnb,[row.e,e])],(S.setRow r ⟨.v n,row.k,row.fl,row.deep,row.app,row.fz⟩).put d ⟨[],vN (n+1)⟩)
    | .b (.ref q)=>match look S.rw q with
     |some A=>if A.k=1/\q≠r then Z ([(.jnl,[row.e,A.e]),(.jnb,[row.e,A.e])],(S.setRow r ⟨.v n,row.k,row.fl,row.deep,row.app,row.fz⟩).put d ⟨[],vN (n+1)⟩) else O
     |none=>O
    |_=>O) else O
   |none=>O
  |_,_,_=>O
 | .yv ins x i f=>match d,sD (fS S g i),fS S g f,fS S g x with
  |some _,Z a,Z c,Z (.b (.ref r))=>match look S.rw r with
   |some row=>if row.k=3/\row.fl=J/\row.app=I/\row.fz=J then (match c with
    | .b (.d e)=>if ins=J then Z ([(.yv J,[row.e,a,e])],(S.newRow r ⟨.v n,row.k,row.fl,row.deep,row.app,row.fz⟩).put d ⟨[],.b (.ref r)⟩) else O
    | .b (.ref q)=>match look S.rw q with
     |some y=>if ins=I/\q≠r/\y.k=3/\y.fl=J/\y.app=I then Z ([(.yv I,[row.e,a,y.e])],((S.dd q).newRow r ⟨.v n,row.k,row.fl,row.deep && (y.deep && !y.fz),row.app,row.fz⟩).put d ⟨[],.b (.ref r)⟩) else O
     |none=>O
    |_=>O) else O
   |none=>O
  |_,_,_,_=>O
 |_=>O
section
variable {ρ iR:M D} {S S':SS} {s:St} {gs:Gs} {bs:Bs} {cf:Nat->M A->u (M A×M A)} {mf:Nat->Bool->M D->Int->u (M D×Int)} {hint:M Nat} {n:Nat} {d:u Nat}
theorem w_:∀{bs cs:Bs} {ρ iR:M D},kY ρ (bs++cs)=Z iR->∃a,kY ρ bs=Z a/\kY a cs=Z iR
 |[],_,ρ,_,h=>⟨ρ,rfl,h⟩
 |(o,es)::bs,cs,ρ,iR,h=>by
  simp only[au,kY]at h ⊢
  split at h
  ·rename_i e g
   split at h
   ·rename_i x f;obtain⟨a,c,b⟩:=w_ h;exact⟨a,c,b⟩
   ·cases h
  ·cases h
theorem xb:∀{bs:Bs} {ρ iR:M D},kY ρ bs=Z iR->iR.length=ρ.length+bs.length
 |[],ρ,_,h=>by cases h;rfl
 |(o,es)::bs,ρ,iR,h=>by
  simp only[kY]at h
  split at h
  ·split at h
   ·have:=xb h;simp only[bh,aH,aJ]at this ⊢;omega
   ·cases h
  ·cases h
theorem JJ.mono(b:M D):∀{c:M SC} {a:M C},JJ ρ c a->JJ (ρ++b) c a
 |[],_,h=>h
 |_::_,_,⟨v,a,g,f,e⟩=>⟨v,a,g,f.mono b,e.mono b⟩
theorem Cz(h:Rel ρ S s)(f:jq ρ gs=Z I):∀{b:M KX} {e:M SC},JC S gs b=Z e->JJ ρ e (b.map (fW s))
 |[],_,h=>by cases h;rfl
 |x::b,_,a=>by
  simp only[JC]at a
  split at a
  ·rename_i c g;obtain⟨e,i,rfl⟩:=ak.1 a;exact⟨_,_,rfl,cV h f g,Cz h f i⟩
  ·cases a
theorem nY(g:n=ρ.length){x:D}{k:Nat}{e:Bool}{es:M (M D)}(f:x=.list k e es){a b c:Bool}:SRr (ρ++[x]) ⟨.v n,k,e,a,b,c⟩ ⟨es,k,e,a,b,c⟩:=by
 subst g f;exact⟨es,jX ρ _ [],rfl⟩
theorem su.ref{r:Nat}:su ρ ⟨[],.b (.ref r)⟩ (.ref r):=su.nil (by simp only[lK,kz])
theorem su.ptr{b o:Nat}:su ρ ⟨[],.ptr b o⟩ (.ptr b o):=su.nil (by simp only[lK])
theorem su.new(a:n=ρ.length){x:D}:su (ρ++[x]) ⟨[],vN n⟩ (.d x):=by
 subst a;exact su.nil ⟨x,jX ρ _ [],rfl⟩
theorem JV{a:C}{x:SB}(h:vV a=Z x):a.const=I:=by
 unfold vV at h
 split at h<;>first|rfl|cases h
theorem zU:∀{b:M C} {c:M SB},gB vV b=Z c->b.all C.const=I
 |[],_,_=>rfl
 |a::b,c,h=>by
  simp only[gB]at h
  split at h
  ·rename_i y e;obtain⟨ys,f,rfl⟩:=ak.1 h;simp only[cX,JV e,zU f,jm]
  ·cases h
theorem Rr(h:Rel ρ S s){c:M C}(a:qn hint S gs n d (.alloc c)=Z (bs,S'))(g:kY ρ bs=Z iR):∃e,lP cf mf s d (.alloc c)=Z e/\Rel iR S' e:=by
 simp only[qn]at a
 split at a
 ·rename_i b i f;simp only[ae,aI]at a;obtain⟨rfl,rfl⟩:=a;cases g;exact⟨_,by simp only[lP,zU f,if_true],(h.lY b (yz f)).put _ su.ptr⟩
 ·cases a
theorem Z_(h:Rel ρ S s)(j:jq ρ gs=Z I){x:KX}(a:qn hint S gs n d (.box x)=Z (bs,S'))(l:kY ρ bs=Z iR):∃e,lP cf mf s d (.box x)=Z e/\Rel iR S' e:=by
 simp only[qn]at a
 split at a
 ·rename_i b c i
  split at a
  ·rename_i m k
   split at a
   ·rename_i f;simp only[ae,aI]at a;obtain⟨rfl,rfl⟩:=a;cases l;have g:=(cV h j i).cells k f;exact⟨_,by simp only[lP,g.cell f,if_true],(h.lY b (g.kill b)).put _ su.ptr⟩
   ·cases a
  ·cases a
 ·cases a
theorem Dd{k:Nat}:∀{b:M SC} {S S':SS} {es pl:M SE} {i:Bool},se k S b=Z (es,pl,i,S')->es.length=k * b.length
 |[],_,_,_,_,_,h=>by
  simp only[se,ae,aI]at h;obtain⟨rfl,_⟩:=h;rfl
 |c::b,_,_,_,_,_,a=>by
  simp only[se]at a
  split at a
  ·split at a
   ·split at a
    ·split at a
     ·rename_i f;obtain⟨⟨a1,a2,a3,a4⟩,g,e⟩:=ak.1 a;simp only[aI]at e;obtain⟨rfl,_⟩:=e;rw[bh,f,Dd g,aH,Nat.mul_succ,Nat.add_comm]
     ·cases a
    ·cases a
   ·cases a
  ·cases a
theorem EJ{k:Nat}{e:Bool}:∀{g:M C} {s i:St} {es:M (M D)} {f:Bool},EI k e s g=Z (es,f,i)->e=I->f=I
 |[],_,_,_,_,h,_=>by simp only[EI,ae,aI]at h;exact h.2.1.symm
 |c::g,_,_,_,_,h,a=>by
  simp only[EI]at h
  split at h
  ·rename_i q o p l
   split at h
   ·rename_i j;obtain⟨⟨a1,a2,a3⟩,m,b⟩:=ak.1 h;simp only[aI]at b;obtain⟨rfl,rfl,rfl⟩:=b;rw[EJ m a,ID l (j.2 a)];rfl
   ·cases h
  ·cases h
theorem acu{r:Nat}{i j deep:Bool}{pl:M SE}{k f:M D}(a:acs hint r i j pl=(bs,deep))(l:kY ρ bs=Z iR)(c:iY (ρ++f) pl=Z k):deep=(i ||(j && dV k)):=by
 unfold acs at a
 split at a
 ·rename_i e;cases a;simp[e]
 ·rename_i e;have e:i=J:=by simpa using e
  subst e
  split at a
  ·rename_i hd;cases a;simp[hd]
  ·rename_i hd;have hd:j=I:=by simpa using hd
   subst hd
   split at a
   ·cases a;cases c;rfl
   ·split at a
    ·cases a;obtain⟨m,x,h,b,rfl⟩:=eM l;rw[Af f h]at c;cases c;simp only[aZ]at b
     split at b
     ·cases b
     ·rename_i g;simpa using g
    ·cases a;obtain⟨m,x,h,b,rfl⟩:=eM l;rw[Af f h]at c;cases c;simp only[aZ]at b
     split at b
     ·rename_i g;simpa using g
     ·cases b
theorem Rs(h:Rel ρ S s)(K:jq ρ gs=Z I)(G:n=ρ.length){k:Nat}{fl:Bool}{l:M KX}(a:qn hint S gs n d (.vn k fl l)=Z (bs,S'))(N:kY ρ bs=Z iR):∃e,lP cf mf s d (.vn k fl l)=Z e/\Rel iR S' e:=by
 simp only[qn]at a
 split at a
 ·rename_i r R B
  split at a
  ·rename_i p m;obtain⟨es,pl,w,X⟩:=p;simp only at a
   split at a
   ·rename_i o;generalize F:acs hint r fl w pl=q at a;obtain⟨T,deep⟩:=q;simp only[ae,aI]at a;obtain⟨rfl,rfl⟩:=a;obtain⟨W,i,V⟩:=w_ N;obtain⟨U,x,v,b,rfl⟩:=eM V;obtain⟨j,rfl⟩:=ri i;have H:=xb i;have C:=Cz h K B;simp only[aZ]at b
    split at b
    ·split at b
     ·rename_i Y t
      split at b
      ·rename_i L;cases b;have c:U.length=k * R.length:=by rw[ly v,Dd m]
       rw[c,Nat.mul_div_cancel_left _ o]at t;obtain⟨y,e,g,Q,P⟩:=XD (fl:=fl) (h.mono j) (C.mono j) m v t L;have hd:=acu F i Q;have f:(w && dV y)=deep:=by
        cases fl with
        |true=>rw[EJ g rfl,hd];rfl
        |false=>rw[hd,gA]
       rw[f]at g;refine⟨_,by simp only[lP,g];rw[if_pos o],((P.mono [_]).newRow r (nY (by rw[G,H]) rfl)).put _ su.ref⟩
      ·cases b
     ·cases b
    ·cases b
   ·cases a
  ·cases a
 ·cases a
theorem Z4:∀{b:M D} {c:M SK},gB agJ b=Z c->c.map SK.d=b
 |[],_,h=>by cases h;rfl
 |a::b,c,h=>by
  simp only[gB]at h
  split at h
  ·rename_i y e;obtain⟨ys,f,rfl⟩:=ak.1 h;rw[aW,Z4 f];unfold agJ at e
   split at e<;>cases e<;>rfl
  ·cases h
theorem UJ{k c:Nat}{g:Bool}{f:M SK}{e:M D}{x:D}(h:aZ (.make k c g f) e=Z x):∃m,e=[.int .i64 m]/\(0<=m/\m.toNat * c<=room/\m<=4611686018427387904)/\x=.list k g (bn m.toNat (f.map SK.d)):=by
 rcases e with _|⟨a,_|⟨b,l⟩⟩
 ·simp[aZ]at h
 ·cases a with
  |int i m=>
   cases i<;>simp only[aZ]at h<;>try cases h
   split at h
   ·rename_i j;cases h;exact⟨m,rfl,j,rfl⟩
   ·cases h
  |_=>simp[aZ]at h
 ·simp[aZ]at h
theorem Nu{k e:Nat}{g:M D}{x:D}(h:aZ (.app k e) g=Z x):∃i es f,g=[.list k i es,.list k i f]/\(es.length+f.length) * e<=room/\es.length+f.length<=maxLen/\x=.list k i (es++f):=by
 rcases g with _|⟨a,_|⟨b,_|⟨c,l⟩⟩⟩
 ·simp[aZ]at h
 ·cases a<;>simp[aZ]at h
 ·cases a<;>cases b<;>simp only[aZ]at h<;>try cases h
  split at h
  ·rename_i j;obtain⟨rfl,rfl,rfl,o,m⟩:=j;cases h;exact⟨_,_,_,rfl,o,m,rfl⟩
  ·cases h
 ·cases a<;>cases b<;>simp[aZ]at h
theorem X1{o:Nat}{g:M D}{x:D}(h:aZ (.set o) g=Z x):∃k c es i f e,g=.list k c es::.int .i64 i::f/\nth es i.toNat=Z e/\o+f.length<=k/\(c=I->dV f=I)/\x=.list k c (es.set i.toNat (gG e o f)):=by
 rcases g with _|⟨a,_|⟨b,l⟩⟩
 ·simp[aZ]at h
 ·cases a<;>simp[aZ]at h
 ·cases a with
  |list k c es=>
   cases b with
   |int m i=>
    cases m<;>simp only[aZ]at h<;>try cases h
    split at h
    ·rename_i e p
     split at h
     ·rename_i j;cases h;exact⟨_,_,_,_,_,_,rfl,p,j.1,j.2,rfl⟩
     ·cases h
    ·cases h
   |_=>simp[aZ]at h
  |_=>simp[aZ]at h
theorem XX{e:M D}{x:D}(h:aZ .Iy e=Z x):∃k es f,e=[.list k I es,.list k I f]/\f.length=es.length/\x=.list k I f:=by
 rcases e with _|⟨a,_|⟨b,_|⟨c,l⟩⟩⟩
 ·simp[aZ]at h
 ·cases a<;>simp[aZ]at h
 ·cases a<;>cases b<;>simp only[aZ]at h<;>try cases h
  split at h
  ·rename_i g;obtain⟨rfl,rfl,rfl,i⟩:=g;cases h;exact⟨_,_,_,rfl,i,rfl⟩
  ·cases h
 ·cases a<;>cases b<;>simp[aZ]at h
theorem XZ{f:M D}{x:D}(h:aZ .jnl f=Z x):∃es i e bs g,f=[.list 1 I es,.list 1 i e]/\e.length=es.length/\e≠[]/\lx es=Z bs/\lx e=Z g/\x=.list 1 I ((dK bs g).map λb=>[D.bool b]):=by
 rcases f with _|⟨a,_|⟨b,_|⟨c,l⟩⟩⟩
 ·simp[aZ]at h
 ·cases a<;>simp[aZ]at h
 ·cases a<;>cases b<;>simp only[aZ]at h<;>try cases h
  split at h
  ·rename_i k;obtain⟨rfl,rfl,rfl,p,o⟩:=k
   split at h
   ·rename_i bs g m j;cases h;exact⟨_,_,_,_,_,rfl,p,o,m,j,rfl⟩
   ·cases h
  ·cases h
 ·cases a<;>cases b<;>simp[aZ]at h
theorem XY{e:M D}{x:D}(h:aZ .jnb e=Z x):∃k p es m i g bs f,e=[.list k p es,.list m i g]/\lx es=Z bs/\lx g=Z f/\x=.bool (nQ bs f):=by
 rcases e with _|⟨a,_|⟨b,_|⟨c,l⟩⟩⟩
 ·simp[aZ]at h
 ·cases a<;>simp[aZ]at h
 ·cases a<;>cases b<;>simp only[aZ]at h<;>try cases h
  split at h
  ·rename_i bs f o j;cases h;exact⟨_,_,_,_,_,_,_,_,rfl,o,j,rfl⟩
  ·cases h
 ·cases a<;>cases b<;>simp[aZ]at h
theorem X0{c:M D}{x:D}(h:aZ .len c=Z x):∃k e es,c=[.list k e es]/\x=.int .i64 es.length:=by
 rcases c with _|⟨a,_|⟨b,l⟩⟩
 ·simp[aZ]at h
 ·cases a<;>simp only[aZ]at h<;>cases h
  exact⟨_,_,_,rfl,rfl⟩
 ·cases a<;>simp[aZ]at h
theorem V0(h:Rel ρ S s)(t:jq ρ gs=Z I)(p:n=ρ.length){k c:Nat}{j:Bool}{f:M D}{x:KX}(b:qn hint S gs n d (.make k c j f x)=Z (bs,S'))(w:kY ρ bs=Z iR):∃g,lP cf mf s d (.make k c j f x)=Z g/\Rel iR S' g:=by
 simp only[qn]at b
 split at b
 ·rename_i r e H o l;simp only[ae,aI]at b;obtain⟨rfl,rfl⟩:=b;obtain⟨L,G,F,C,rfl⟩:=eM w;obtain⟨a,B,rfl⟩:=fj F;obtain⟨K,i,y⟩:=lZ h t o;rw[B]at i;cases i;obtain⟨m,q,v,rfl⟩:=UJ C;cases q;refine⟨_,by simp only[lP,y];rw[if_pos v],((h.mono [_]).newRow r (nY p (by rw[Z4 l]))).put _ su.ref⟩
 ·cases b
theorem lK.uj{x:SC}{c:C}{a:M SB}(h:lK ρ x c)(e:x.cells=Z a)(b:a.all SB.cell=I):eO ρ a c.cells/\c.cells.all C.cell=I:=⟨h.cells e b,(h.cells e b).cell b⟩
theorem ac5(h:Rel ρ S s)(G:jq ρ gs=Z I)(hn:n=ρ.length){m:Nat}{x y:KX}(g:qn hint S gs n d (.st m x y)=Z (bs,S'))(V:kY ρ bs=Z iR):∃s',lP cf mf s d (.st m x y)=Z s'/\Rel iR S' s':=by
 simp only[qn]at g
 split at g
 ·rename_i b o c P N
  split at g
  ·rename_i l ys R U
   split at g
   ·rename_i T;obtain⟨L,F,C⟩:=T;simp only[ae,aI]at g;obtain⟨rfl,rfl⟩:=g;cases V;have t:=cV h G P;simp only[lK]at t;obtain⟨cs,g1,g2⟩:=h.bx b l R;obtain⟨H,g4⟩:=(cV h G N).uj U L;refine⟨_,by simp only[lP,t,g1];rw[if_pos ⟨g4,by rw[H.len,F],by rw[g2.len];exact C⟩],h.fY b (g2.yv o H)⟩
   ·cases g
  ·cases g
 ·rename_i r k i o c P N;obtain⟨iv,hi,t⟩:=cV h G P
  split at g
  ·rename_i ys U
   split at g
   ·rename_i p hp;obtain⟨es,pl,dp,S1⟩:=p;simp only at g
    split at g
    ·rename_i row R
     split at g
     ·rename_i T;obtain⟨L,F,C,k4,k5,k6,k7⟩:=T;obtain⟨H,g4⟩:=(cV h G N).uj U L;obtain⟨X,ps,s1,q1,q2,q3,K⟩:=Ss h H hp;obtain⟨f,Y,Mv,w2,rfl⟩:=K.rw r row R;have q:∀{σ:M D} {l:M D} {v:D},iY (ρ++σ) (row.e::i::es)=Z l->aZ (.set o) l=Z v->∃e,nth Mv iv.toNat=Z e/\o+X.length<=row.k/\(row.fl=I->dV X=I)/\v=.list row.k row.fl (Mv.set iv.toNat (gG e o X)):=by
       intro σ l v B w;obtain⟨a,PD,j1,j2,rfl⟩:=dE B;obtain⟨b,zs',j3,j4,rfl⟩:=dE j2;rw[SE.mono σ w2]at j1;cases j1;rw[SE.mono σ hi]at j3;cases j3;rw[Af σ q2]at j4;cases j4;obtain⟨k',vk,jJ,i',iF,e,t1,t2,t3,t4,rfl⟩:=X1 w;simp only[cl,D.list.injEq,D.int.injEq,true_and]at t1;obtain⟨⟨rfl,rfl,rfl⟩,rfl,rfl⟩:=t1;exact⟨e,t2,t3,t4,rfl⟩
      split at g
      ·rename_i j;simp only[ae,aI]at g;obtain⟨rfl,rfl⟩:=g;obtain⟨Ia,v,B,w,rfl⟩:=eM V;obtain⟨e,t1,t2,t3,rfl⟩:=q (σ:=[]) (by simpa using B) w;refine⟨_,by
        simp only[lP,t,q1,Y,t1];rw[if_pos ⟨F,C,k4,by rw[ly q2,k5],k6,t3,by
         cases uy:row.fl with
         |true=>rw[ID q1 (t3 uy)];rfl
         |false=>rw[uy,gA]at j;rw[j,ll]⟩],?_⟩
       exact (K.mono [_]).setRow r (nY hn rfl)
      ·rename_i j;simp only[ae,aI]at g;obtain⟨rfl,rfl⟩:=g;obtain⟨WB,BH,DS⟩:=w_ (bs:=[_]) (cs:=[_]) V;obtain⟨xs1,v1,f1,W,rfl⟩:=eM BH;obtain⟨Ia,v,B,w,rfl⟩:=eM DS;obtain⟨e,t1,t2,t3,rfl⟩:=q B w;rw[q3]at f1;cases f1;simp only[aZ]at W
       split at W
       ·rename_i Q;refine⟨_,by
         simp only[lP,t,q1,Y,t1];rw[if_pos ⟨F,C,k4,by rw[ly q2,k5],k6,t3,by
          rw[Q,fZ];cases dp with
          |true=>rfl
          |false=>
           simp only[Bool.not_eq_true,Bool.or_eq_false_iff]at j;simp only[j.1,j.2,Bool.or_self,aF]at k7⟩],?_⟩
        exact (K.mono [_] |>.mono [_]).setRow r (nY (by rw[hn];simp) rfl)
       ·cases W
     ·cases g
    ·cases g
   ·cases g
  ·cases g
 ·cases g
theorem V1(h:Rel ρ S s){k:Nat}{i:Bool}{c:SC}{v:C}{e:SE}{l:Bool}{m:SS}(f:lK ρ c v)(b:Rv S k i c=Z (e,l,m)):∃x j,e.d ρ=Z x/\Rel ρ m j/\∀es,x=.list k i es->nI s k i v=Z (es,l,j):=by
 unfold Rv at b
 split at b
 ·cases b;obtain⟨x,t,rfl⟩:=f;refine⟨x,s,t,h,?_⟩
  rintro es rfl
  simp[nI]
 ·cases b;simp only[lK,kz]at f;subst f;refine⟨_,s,rfl,h,?_⟩;intro es g;cases g;simp[nI]
 ·split at b
  ·rename_i row q
   split at b
   ·rename_i r;obtain⟨rfl,rfl⟩:=r;cases b;simp only[lK,kz]at f;subst f;obtain⟨a,p,w,o,rfl⟩:=h.rw _ row q;refine⟨_,_,o,h.dd _,?_⟩;intro es g;cases g;simp[nI,p]
   ·cases b
  ·cases b
 ·cases b
theorem Z9(h:Rel ρ S s)(B:jq ρ gs=Z I)(P:n=ρ.length){k l:Nat}{m:Bool}{x y:KX}(g:qn hint S gs n d (.app k l m x y)=Z (bs,S'))(Q:kY ρ bs=Z iR):∃K,lP cf mf s d (.app k l m x y)=Z K/\Rel iR S' K:=by
 simp only[qn]at g
 split at g
 ·rename_i d0 c V
  split at g
  ·rename_i p W;obtain⟨e,dp,S1⟩:=p;simp only at g
   obtain⟨v,s1,N,q2,L⟩:=V1 h (cV h B V) W
   split at g
   ·rename_i k' vk t;have i:=cV h B t;simp only[lK,kz]at i
    split at g
    ·rename_i w;obtain⟨rfl,rfl⟩:=w;simp only[ae,aI]at g;obtain⟨rfl,rfl⟩:=g;obtain⟨Ia,T,F,C,rfl⟩:=eM Q;obtain⟨a,Y,o,G,rfl⟩:=dE F;obtain⟨b,j,rfl⟩:=fj G;rw[N]at j;cases j;simp only[SE.d,SK.d,ae]at o;subst o;obtain⟨m,es,q,t1,t2,t3,rfl⟩:=Nu C;simp only[cl,D.list.injEq,true_and,and_true]at t1;obtain⟨⟨rfl,rfl⟩,rfl⟩:=t1;have q1:=L q rfl;simp only[aJ,bo]at t2 t3;refine⟨_,by simp only[lP,q1,i];rw[if_pos ⟨trivial,trivial,t2,t3⟩],?_⟩;exact ((q2.mono [_]).newRow d0 (nY P (by simp))).put _ su.ref
    ·cases g
   ·rename_i r t;have i:=cV h B t;simp only[lK,kz]at i
    split at g
    ·rename_i row X
     split at g
     ·rename_i w;obtain⟨rfl,rfl,U⟩:=w;simp only[ae,aI]at g;obtain⟨rfl,rfl⟩:=g;obtain⟨Ia,T,F,C,rfl⟩:=eM Q;obtain⟨a,Y,o,G,rfl⟩:=dE F;obtain⟨b,j,rfl⟩:=fj G;rw[N]at j;cases j;obtain⟨m,es,q,t1,t2,t3,rfl⟩:=Nu C;simp only[cl,and_true]at t1;obtain⟨rfl,rfl⟩:=t1;obtain⟨f,R,Mv,H,rfl⟩:=q2.rw r row X;rw[o]at H;cases H;have q1:=L q rfl;refine⟨_,by simp only[lP,q1,i,R];rw[if_pos ⟨trivial,trivial,U,t2,t3⟩],?_⟩;exact ((q2.mono [_]).newRow r (nY P rfl)).put _ su.ref
     ·cases g
    ·cases g
   ·cases g
  ·cases g
 ·cases g
theorem Sm(h:Rel ρ S s)(p:jq ρ gs=Z I){e:SE}{lo w:u KX}{b:PO×M SE}(i:aa3 S gs e lo w=Z b){k:Nat}{F:Bool}{es:M (M D)}(B:e.d ρ=Z (.list k F es))(C:kY ρ [b]=Z iR):∃x y,tQ s lo 0=Z x/\tQ s w es.length=Z y/\x<=y/\y<=es.length/\iR=ρ++[.list k F ((es.take y).drop x)]:=by
 unfold aa3 at i
 split at i
 ·split at i
  ·rename_i l o;cases i;obtain⟨T,v,q,f,rfl⟩:=eM C;obtain⟨a,Q,j,t,rfl⟩:=dE q;obtain⟨b,r,rfl⟩:=fj t;rw[B]at j;cases j;simp only[aZ]at f
   split at f
   ·rename_i x m
    split at f
    ·rename_i g;cases f;refine⟨x,es.length,L5 h p o r m 0 (λ_=>rfl),rfl,g,aD _,by rw[aR]⟩
    ·cases f
   ·cases f
  ·cases i
 ·rename_i L
  split at i
  ·rename_i l y o K;cases i;obtain⟨T,v,q,f,rfl⟩:=eM C;obtain⟨a,Q,j,t,rfl⟩:=dE q;obtain⟨b,G,r,P,rfl⟩:=dE t;obtain⟨c,N,rfl⟩:=fj P;rw[B]at j;cases j;simp only[aZ]at f
   split at f
   ·rename_i x H m R
    split at f
    ·rename_i g;cases f;refine⟨x,H,L5 h p o r m 0 (λ_=>rfl),L5 (lo:=Z L) h p K N R _ (λh=>by cases h),g.1,g.2,rfl⟩
    ·cases f
   ·cases f
  ·cases i
theorem aab(h:Rel ρ S s)(l:jq ρ gs=Z I)(B:n=ρ.length){k:Nat}{x:KX}{q t:u KX}(e:qn hint S gs n d (.cut k x q t)=Z (bs,S'))(v:kY ρ bs=Z iR):∃p,lP cf mf s d (.cut k x q t)=Z p/\Rel iR S' p:=by
 simp only[qn]at e
 split at e
 ·rename_i d0 G H m;have f:=cV h l m;simp only[lK,kz]at f
  split at e
  ·rename_i b o
   split at e
   ·rename_i j;subst j;simp only[ae,aI]at e;obtain⟨rfl,rfl⟩:=e;obtain⟨a,F,q1,q2,i,g,rfl⟩:=Sm (es:=[]) h l o rfl v;simp only[aJ,Nat.le_zero]at g q2;subst g;simp only[Nat.le_zero]at i;subst i;refine⟨_,by simp only[lP,f,q1,q2];rw[if_pos ⟨trivial,trivial,trivial⟩],(h.mono _).put _ (su.nil (by simp only[lK,kz]))⟩
   ·cases e
  ·cases e
 ·rename_i d0 r m;have f:=cV h l m;simp only[lK,kz]at f
  split at e
  ·rename_i row C;obtain⟨c,y,K,w,rfl⟩:=h.rw r row C
   split at e
   ·rename_i b o
    split at e
    ·rename_i j;simp only[ae,aI]at e;obtain⟨rfl,rfl⟩:=e;obtain⟨a,F,q1,q2,i,g,rfl⟩:=Sm h l o w v;refine⟨_,by simp only[lP,f,y,q1,q2];rw[if_pos ⟨j.1,i,g,j.2⟩],?_⟩;exact ((h.mono [_]).newRow r (nY B rfl)).put _ su.ref
    ·cases e
   ·cases e
  ·cases e
 ·cases e
theorem aaa(h:Rel ρ S s)(q:jq ρ gs=Z I)(i:n=ρ.length){k:Nat}{x y:KX}(g:qn hint S gs n d (.Iy k x y)=Z (bs,S'))(T:kY ρ bs=Z iR):∃j,lP cf mf s d (.Iy k x y)=Z j/\Rel iR S' j:=by
 simp only[qn]at g
 split at g
 ·rename_i d0 r e P N;have p:=cV h q P;simp only[lK,kz]at p;obtain⟨v,L,K⟩:=lZ h q N
  split at g
  ·rename_i row Q;obtain⟨f,B,Mv,w,rfl⟩:=h.rw r row Q
   split at g
   ·rename_i R;obtain⟨m,H,F,C⟩:=R;simp only[ae,aI]at g;obtain⟨rfl,rfl⟩:=g;obtain⟨WB,BH,DS⟩:=w_ (bs:=[_]) (cs:=[_]) T;obtain⟨t,v1,Y,X,rfl⟩:=eM BH;obtain⟨Ia,v',V,U,rfl⟩:=eM DS;obtain⟨a,PD,t1,t2,rfl⟩:=dE Y;obtain⟨b,t3,rfl⟩:=fj t2;rw[w]at t1;cases t1;rw[L]at t3;cases t3;obtain⟨k',es,jJ,o,i2,rfl⟩:=XX X;simp only[cl,D.list.injEq,and_true]at o;obtain⟨⟨i3,i4,rfl⟩,rfl⟩:=o;obtain⟨c,c1,rfl⟩:=fj V;obtain⟨G,W,es2,l,rfl⟩:=X0 U;simp only[SE.d,i,jX,ae]at c1;subst c1;simp only[cl,D.list.injEq,and_true]at l;obtain⟨rfl,rfl,rfl⟩:=l;refine⟨_,by simp only[lP,p,K,B];rw[if_pos ⟨m,by rw[<- i3,m],trivial,H,F,C,i2⟩],?_⟩;refine Rel.put ?_ _ (su.new (by rw[i];simp));exact ((h.mono [_]).setRow r (nY i (by rw[i3,i4]))).mono [_]
   ·cases g
  ·cases g
 ·cases g
theorem ac4(h:Rel ρ S s)(U:jq ρ gs=Z I)(T:n=ρ.length){x y:KX}(g:qn hint S gs n d (.jn x y)=Z (bs,S'))(t:kY ρ bs=Z iR):∃m,lP cf mf s d (.jn x y)=Z m/\Rel iR S' m:=by
 simp only[qn]at g
 split at g
 ·rename_i d0 r c hx hy;have R:=cV h U hx;simp only[lK,kz]at R;have i:=cV h U hy
  split at g
  ·rename_i row hl;obtain⟨f,W,Mv,G,rfl⟩:=h.rw r row hl
   split at g
   ·rename_i hk;obtain⟨P,N,k3,k4⟩:=hk;have o:∀{e:SE} {v:D},e.d ρ=Z v->(∀l j,v=.list 1 l j->IZ s r (fW s y)=Z j)->kY ρ [(.jnl,[row.e,e]),(.jnb,[row.e,e])]=Z iR->S'=(S.setRow r ⟨.v n,row.k,row.fl,row.deep,row.app,row.fz⟩).put (Z d0) ⟨[],vN (n+1)⟩->∃m,lP cf mf s (Z d0) (.jn x y)=Z m/\Rel iR S' m:=by
     rintro e v p X t rfl
     obtain⟨WB,BH,DS⟩:=w_ (bs:=[_]) (cs:=[_]) t;obtain⟨V,v1,f1,f2,rfl⟩:=eM BH;obtain⟨Ia,v',h1,h2,rfl⟩:=eM DS;obtain⟨a,PD,t1,t2,rfl⟩:=dE f1;obtain⟨b,t3,rfl⟩:=fj t2;rw[G]at t1;cases t1;rw[p]at t3;cases t3;obtain⟨es,l,j,bs,cs,Q,i2,i3,i4,i5,rfl⟩:=XZ f2;simp only[cl,D.list.injEq,and_true]at Q;obtain⟨⟨_,_,rfl⟩,rfl⟩:=Q;obtain⟨a,PD,t1,t2,rfl⟩:=dE h1;obtain⟨b,t3,rfl⟩:=fj t2;rw[SE.mono _ G]at t1;cases t1;rw[SE.mono _ p]at t3;cases t3;obtain⟨_,_,es2,_,_,apf,bs',jV,L,K,H,rfl⟩:=XY h2;simp only[cl,D.list.injEq,and_true]at L;obtain⟨⟨_,_,rfl⟩,⟨_,_,rfl⟩⟩:=L;rw[i4]at K;cases K;rw[i5]at H;cases H;refine⟨_,by simp only[lP,R,X l j rfl,W];rw[if_pos ⟨P,N,k3,k4,i2⟩];simp only[i4,i5];rw[if_pos i3],?_⟩;refine Rel.put ?_ _ (su.new (by rw[T];simp));exact ((h.mono [_]).setRow r (nY T (by rw[P,N]))).mono [_]
    split at g
    ·rename_i e;simp only[ae,aI]at g;obtain⟨rfl,F⟩:=g;obtain⟨v,p,j2⟩:=i;exact o p (λl j C=>by rw[j2,C];rfl) t F.symm
    ·rename_i q
     split at g
     ·rename_i OS Y
      split at g
      ·rename_i hq;simp only[ae,aI]at g;obtain⟨rfl,F⟩:=g;simp only[lK,kz]at i;obtain⟨z',B,amm,w,rfl⟩:=h.rw q OS Y;refine o w (λl j C=>?_) t F.symm
       injection C with e1 e2 e3
       subst e3;simp only[i,IZ,B];rw[if_pos hq]
      ·cases g
     ·cases g
    ·cases g
   ·cases g
  ·cases g
 ·cases g
theorem kz.iz(q i:Nat):∀{x:SB} {c:C},kz ρ x c->kz ρ (x.iz q i) (c.iz q i)
 | .d e,_,⟨x,b,a⟩=>by subst a;exact⟨x,b,rfl⟩
 | .nil _ _,_,h=>by simp only[kz]at h;subst h;rfl
 | .ref r,_,h=>by
  simp only[kz]at h;subst h;simp only[SB.iz,C.iz];split
  ·rfl
  ·split
   ·trivial
   ·rfl
 | .any,_,_=>trivial
theorem eO.iz(q i:Nat):∀{a:M SB} {b:M C},eO ρ a b->eO ρ (a.map (SB.iz q i)) (C.Ct q i b)
 |[],_,h=>by simp only[eO]at h;subst h;rfl
 |_::_,_,⟨c,j,g,f,e⟩=>by subst g;exact⟨_,_,rfl,f.iz q i,eO.iz q i e⟩
theorem vK.iz(q i:Nat):∀{f:M (SB ⊕ M SB)} {g:M C},vK ρ f g->vK ρ (f.map λ| .inl x=>.inl (x.iz q i) | .inr l=>.inr (l.map (SB.iz q i))) (C.Ct q i g)
 |[],_,h=>by simp only[vK]at h;subst h;rfl
 | .inl _::_,_,⟨c,j,e,b,a⟩=>by subst e;exact⟨_,_,rfl,b.iz q i,vK.iz q i a⟩
 | .inr _::_,_,⟨k,j,e,b,a⟩=>by subst e;exact⟨_,_,rfl,b.iz q i,vK.iz q i a⟩
theorem lK.iz(q i:Nat):∀{x:SC} {c:C},lK ρ x c->lK ρ (x.iz q i) (c.iz q i)
 | .b _,_,h=>kz.iz q i h
 | .agg _,_,⟨cs,e,f⟩=>by subst e;exact⟨_,rfl,f.iz q i⟩
 | .sh _,_,⟨cs,e,f⟩=>by subst e;exact⟨_,rfl,f.iz q i⟩
 | .ptr b o,_,h=>by simp only[lK]at h;subst h;rfl
 | .pQ r k a o,_,⟨n,e,f⟩=>by
  subst f;simp only[SC.iz,C.iz];split
  ·exact⟨n,e,rfl⟩
  ·split
   ·trivial
   ·exact⟨n,e,rfl⟩
 | .vj _ _,_,⟨x,cs,e,f,g⟩=>by subst g;exact⟨x,cs,e,f,rfl⟩
 | .any,_,_=>trivial
theorem Rel.iz(h:Rel ρ S s)(q i:Nat){row:SR}{y:Row}(o:SRr ρ row y):Rel ρ (S.iz q i row) (s.iz q i y) where
 sl d g a:=by
  simp only[SS.iz]at a;rw[qA (λg:SG=>(⟨g.gs,g.c.iz q i⟩:SG)),ak]at a;obtain⟨t,e,rfl⟩:=a;obtain⟨b,l,k,p⟩:=h.sl d t e;have:(s.iz q i y).get d=(s.get d).iz q i:=by
   simp only[St.get,St.iz,ZW];rw[qA (C.iz q i)];cases look s.sl d<;>rfl
  rw[this];exact⟨b,l,λj=>(k j).iz q i,λj=>by rw[p j];rfl⟩
 bx b m a:=by
  simp only[SS.iz]at a;rw[qA (λm:M SB=>m.map (SB.iz q i)),ak]at a;obtain⟨w,e,rfl⟩:=a;obtain⟨v,l,k⟩:=h.bx b w e;refine⟨C.Ct q i v,?_,k.iz q i⟩;simp only[St.iz,ZV];rw[qA (C.Ct q i),l];rfl
 rw r x a:=by
  simp only[SS.iz,look,eK]at a;simp only[St.iz,look,eK]
  split at a
  ·rename_i f;cases a;exact⟨y,by rw[if_pos f],o⟩
  ·rename_i f;rw[if_neg f]
   split at a
   ·cases a
   ·rename_i e;rw[if_neg f,if_neg e];exact h.rw r x a
theorem aac(h:Rel ρ S s)(f:jq ρ gs=Z I){x:KX}(a:qn hint S gs n d (.TI x)=Z (bs,S'))(g:kY ρ bs=Z iR):∃i,lP cf mf s d (.TI x)=Z i/\Rel iR S' i:=by
 simp only[qn]at a
 split at a
 ·rename_i d0 q b;have c:=cV h f b;simp only[lK,kz]at c
  split at a
  ·rename_i row p;simp only[ae,aI]at a;obtain⟨rfl,rfl⟩:=a;cases g;obtain⟨y,l,j⟩:=h.rw q row p;exact⟨_,by simp only[lP,c,l],(h.iz q (yc d0 0) j).put _ su.ref⟩
  ·cases a
 ·rename_i d0 k r b;have c:=cV h f b;simp only[lK,kz]at c;simp only[ae,aI]at a;obtain⟨rfl,rfl⟩:=a;cases g;exact⟨s.put (Z d0) (.nil k r),by simp only[lP,c],h.put _ (su.nil (by simp only[lK,kz]))⟩
 ·rename_i d0 e b;obtain⟨v,o,m⟩:=cV h f b;simp only[ae,aI]at a;obtain⟨rfl,rfl⟩:=a;cases g;exact⟨_,by simp only[lP,m],h.put _ (su.nil ⟨v,o,rfl⟩)⟩
 ·cases a
theorem UK{x y c v:D}(h:aZ (.yv J) [x,y,c]=Z v):∃k f es a b,x=.list k f es/\y=.int .i64 a/\c=.int .i64 b/\0<=a/\a < b/\b<=es.length/\es.length * 56<=room/\v=.list k f (es.take a.toNat++es.drop b.toNat):=by
 cases x<;>cases y<;>cases c<;>first|(simp[aZ]at h;done)|skip
 rename_i k f es i a g b;cases i<;>first|(simp[aZ]at h;done)|skip
 cases g<;>first|(simp[aZ]at h;done)|skip
 simp only[aZ]at h
 split at h
 ·rename_i e;cases h;exact⟨_,_,_,_,_,rfl,rfl,rfl,e.1,e.2.1,e.2.2.1,e.2.2.2,rfl⟩
 ·cases h
theorem UL{x y b v:D}(h:aZ (.yv I) [x,y,b]=Z v):∃k f es a i g c,x=.list k f es/\y=.int .i64 a/\b=.list i g c/\0<=a/\a<=es.length/\c≠[]/\(es.length+c.length) * 56<=room/\v=.list k f (es.take a.toNat++c++es.drop a.toNat):=by
 cases x<;>cases y<;>cases b<;>first|(simp[aZ]at h;done)|skip
 rename_i k f es j a i g c;cases j<;>first|(simp[aZ]at h;done)|skip
 simp only[aZ]at h
 split at h
 ·rename_i e;cases h;exact⟨_,_,_,_,_,_,_,rfl,rfl,rfl,e.1,e.2.1,e.2.2.1,e.2.2.2,rfl⟩
 ·cases h
theorem aad(h:Rel ρ S s)(F:jq ρ gs=Z I)(hn:n=ρ.length){ins:Bool}{x i b:KX}(f:qn hint S gs n d (.yv ins x i b)=Z (bs,S'))(hb:kY ρ bs=Z iR):∃T,lP cf mf s d (.yv ins x i b)=Z T/\Rel iR S' T:=by
 simp only[qn]at f
 split at f
 ·rename_i d0 a c r hi hz hx;have w:=cV h F hx;have g:=cV h F hz;simp only[lK,kz]at w;obtain⟨va,j1,Y⟩:=lZ h F hi
  split at f
  ·rename_i row hl;obtain⟨zz,R,Mv,Q,rfl⟩:=h.rw r row hl
   split at f
   ·rename_i hk;obtain⟨X,W,V,U⟩:=hk
    split at f
    ·rename_i e;obtain⟨ve,g1,g2⟩:=g
     split at f
     ·rename_i P;subst P;simp only[ae,aI]at f;obtain⟨rfl,rfl⟩:=f;obtain⟨Ia,v',H,G,rfl⟩:=eM hb;obtain⟨a1,PD,m,L,rfl⟩:=dE H;obtain⟨a2,o,l,K,rfl⟩:=dE L;obtain⟨a3,j,rfl⟩:=fj K;rw[Q]at m;cases m;rw[j1]at l;cases l;rw[g1]at j;cases j;obtain⟨k,fl,es,p,q,t1,rfl,rfl,t2,t3,t4,t5,rfl⟩:=UK G;simp only[D.list.injEq]at t1;obtain⟨t6,v,rfl⟩:=t1;have t:zf s J p (fW s b)=Z (q,[],I,s):=by rw[g2];simp only[zf];rw[if_pos ⟨trivial,t3⟩]
      refine⟨_,by simp only[lP,Y,t,w,R];rw[if_pos ⟨X,W,V,U,t2,t4,by simpa using t5⟩],?_⟩;exact ((h.mono [_]).newRow r (by rw[fZ,aK];exact nY hn (by rw[t6,v]))).put _ su.ref
     ·cases f
    ·rename_i q;simp only[lK,kz]at g
     split at f
     ·rename_i y C;obtain⟨z2,w3,N,w4,rfl⟩:=h.rw q y C
      split at f
      ·rename_i hc;obtain⟨rfl,B,y1,y2,y3⟩:=hc;simp only[ae,aI]at f;obtain⟨rfl,rfl⟩:=f;obtain⟨Ia,v',H,G,rfl⟩:=eM hb;obtain⟨a1,PD,m,L,rfl⟩:=dE H;obtain⟨a2,o,l,K,rfl⟩:=dE L;obtain⟨a3,j,rfl⟩:=fj K;rw[Q]at m;cases m;rw[j1]at l;cases l;rw[w4]at j;cases j;obtain⟨k,fl,es,p,k',vk,jJ,t1,rfl,t0,t2,t4,t5,t8,rfl⟩:=UL G;simp only[D.list.injEq]at t1 t0;obtain⟨t6,v,rfl⟩:=t1;obtain⟨_,_,rfl⟩:=t0;have t:zf s I p (fW s b)=Z (p,N,y.deep && !y.fz,s.dd q):=by rw[g];simp only[zf,w3];rw[if_pos ⟨trivial,y1,y2,y3,t5⟩]
       have w5:look (s.dd q).rw r=Z ⟨Mv,row.k,row.fl,row.deep,row.app,row.fz⟩:=by simp only[St.dd,eK];rw[if_neg B];exact R
       refine⟨_,by simp only[lP,Y,t,w,w5];rw[if_pos ⟨X,W,V,U,t2,t4,t8⟩],?_⟩;exact (((h.dd q).mono [_]).newRow r (nY hn (by rw[t6,v]))).put _ su.ref
      ·cases f
     ·cases f
    ·cases f
   ·cases f
  ·cases f
 ·cases f
theorem Ru(h:Rel ρ S s)(f:jq ρ gs=Z I)(g:n=ρ.length){o:KO}(c:qn hint S gs n d o=Z (bs,S'))(e:kY ρ bs=Z iR):o.kX=J/\∃j,lP cf mf s d o=Z j/\Rel iR S' j:=by
 cases o with
 |alloc p=>exact⟨rfl,Rr h c e⟩
 |box x=>exact⟨rfl,Z_ h f c e⟩
 |vn k l q=>exact⟨rfl,Rs h f g c e⟩
 |make k b l p x=>exact⟨rfl,V0 h f g c e⟩
 |st m x y=>exact⟨rfl,ac5 h f g c e⟩
 |app k b l x y=>exact⟨rfl,Z9 h f g c e⟩
 |cut k x r t=>exact⟨rfl,aab h f g c e⟩
 |Iy k x y=>exact⟨rfl,aaa h f g c e⟩
 |jn x y=>exact⟨rfl,ac4 h f g c e⟩
 |yv ins x i a=>exact⟨rfl,aad h f g c e⟩
 |TI x=>exact⟨rfl,aac h f c e⟩
 |_=>cases c
end
end
section
section
variable {T:Nat->u KF} {cf:Cf} {mf:Mf}
noncomputable def cnd(T:Nat->u KF)(mf:Mf)(c:C)(a b:K)(s:St):u (Ex×St):=ife c (ev T mf a s) (ev T mf b s)
theorem aez(c:KX)(a b:K)(s:St):ev T mf (.cond c a b) s=cnd T mf (fW s c) a b s:=Kb T mf c a b s
theorem ahX(a b:K)(s:St):cnd T mf (.d (.bool I)) a b s=ev T mf a s:=rfl
theorem ahW(a b:K)(s:St):cnd T mf (.d (.bool J)) a b s=ev T mf b s:=rfl
end
attribute [go_sem 2000] aez
attribute [go_sem] ahX ahW Nat.max_def ite_self
theorem bp{a:Type}{l:M a}{i:Nat}{x:a}(h:nth l i=Z x):i < l.length:=by rw[ef]at h;exact (bq.1 h).1
inductive Sg (σ ρ:Type) where
 |go (s:σ)
 |out (r:ρ)
def iD{c a b:Type}(step:Nat->a->c->Sg a b):Nat->a->M c->Sg a b
 |_,s,[]=>.go s
 |i,s,e::es=>match step i s e with
  | .go d=>iD step (i+1) d es
  | .out r=>.out r
def sgR{a b:Type}(st:a->St)(c:b->Ex×St):Sg a b->u (Ex×St)
 | .go s=>Z (.norm,st s)
 | .out r=>Z (c r)
def sgE{a c:Type}(b:Nat)(fin:a->St)(d:c->Ex×St):Sg a c->u (Ex×St)
 | .go s=>Z (.exit b,fin s)
 | .out r=>Z (d r)
theorem adh{g:St->u (Ex×St)}{r:Ex×St}(h:r.1≠.norm):H9 g (Z r)=Z r:=by
 obtain⟨e,s⟩:=r;cases e with
 |norm=>exact absurd rfl h
 |exit i=>rfl
 |ret=>rfl
theorem VH{T:Nat->u KF}{g:Mf}{body:K}{n c k:Type}{es:M n}{b:Nat}(step:Nat->c->n->Sg c k)(a:Nat->c->Prop)(st:Nat->c->St)(fin:c->St)(f:k->Ex×St)
  (o:∀r,(f r).1≠.norm)
  (p:∀i e s,nth es i=Z e->a i s->ev T g body (st i s)=sgR (st (i+1)) f (step i s e)/\∀d,step i s e=.go d->a (i+1) d)
  (q:∀s,a es.length s->ev T g body (st es.length s)=Z (.exit b,fin s)) :
  ∀m i s,i+m=es.length->a i s->ev T g (.loop body) (st i s)=sgE b fin f (iD step i s (es.drop i))
 |0,i,s,h,j=>by
  obtain rfl:i=es.length:=by omega
  rw[gN,q s j,bE];rfl
 |m+1,i,s,h,j=>by
  have a1:=cI (l:=es) (i:=i) (by omega);obtain⟨w,v⟩:=p i _ s a1 j;rw[eg es i _ a1,gN,w];simp only[iD];cases t:step i s es[i]with
  |go d=>
   simp only[sgR,H9];exact VH step a st fin f o p q m (i+1) d (by omega) (v d t)
  |out r=>
   simp only[sgR,sgE];exact adh (o r)
def allI{a:Type}(p:Nat->a->Bool):Nat->M a->Bool
 |_,[]=>I
 |i,e::es=>p i e && allI p (i+1) es
theorem vM{a:Type}(p:a->Bool):∀(i:Nat) (es:M a),allI (λ_=>p) i es=es.all p
 |_,[]=>rfl
 |i,e::es=>by simp[allI,vM p (i+1) es]
theorem Oh{T:Nat->u KF}{c:Mf}{body:K}{d:Type}{es:M d}{b:Nat}(p:Nat->d->Bool)(st:Nat->St)(fin r:St)
  (f:∀i e,nth es i=Z e->ev T c body (st i)=if p i e=I then Z (.norm,st (i+1)) else Z (.ret,r))
  (g:ev T c body (st es.length)=Z (.exit b,fin)) :
  ∀m i,i+m=es.length->ev T c (.loop body) (st i)=if allI p i (es.drop i)=I then Z (.exit b,fin) else Z (.ret,r)
 |0,i,h=>by
  obtain rfl:i=es.length:=by omega
  rw[gN,g,bE];rfl
 |m+1,i,h=>by
  have a1:=cI (l:=es) (i:=i) (by omega);have j:allI p i (es.drop i)=(p i (es[i]'(by omega)) && allI p (i+1) (es.drop (i+1))):=by rw[eg es i _ a1];rfl
  rw[gN,f i _ a1,j];by_cases a:p i (es[i]'(by omega))=I
  ·rw[if_pos a,a,cW];exact Oh p st fin r f g m (i+1) (by omega)
  ·rw[if_neg a,ej.2 a,cP,if_neg dq];rfl
theorem ahj{T:Nat->u KF}{a:Mf}{body:K}{c:Type}{es:M c}{b:Nat}(p:c->Bool)(st:Nat->St)(fin r:St)
  (d:∀i e,nth es i=Z e->ev T a body (st i)=if p e=I then Z (.norm,st (i+1)) else Z (.ret,r))
  (f:ev T a body (st es.length)=Z (.exit b,fin)):ev T a (.loop body) (st 0)=if es.all p=I then Z (.exit b,fin) else Z (.ret,r):=by
 have h:=Oh (λ_=>p) st fin r d f es.length 0 (by omega);rw[bm,vM]at h;exact h
def ml{a:Type}(p:a->Bool):M a->Nat->u Nat
 |[],_=>O
 |e::es,k=>if p e then Z k else ml p es (k+1)
def apg(b:Nat)(fin:St)(r:Nat->St):u Nat->u (Ex×St)
 |none=>Z (.exit b,fin)
 |some i=>Z (.ret,r i)
theorem AF{a β:Type}{f:a->β}{es:M a}{i:Nat}{e:a}(h:nth es i=Z e):(es.take (i+1)).map f=(es.take i).map f++[f e]:=by
 rw[bZ es i e h];simp
theorem SJ{a:Type}{p:a->Bool}:∀{es:M a} {k j:Nat},ml p es k=Z j->∃e,k<=j/\nth es (j - k)=Z e/\p e=I
 |[],k,j,h=>by simp[ml]at h
 |e::es,k,j,h=>by
  simp only[ml]at h
  split at h
  ·rename_i b;obtain rfl:=ey h;exact⟨e,aD _,by simp[nth],b⟩
  ·obtain⟨x,f,d,c⟩:=SJ h;refine⟨x,by omega,?_,c⟩;rw[show j - k=(j - (k+1))+1 by omega];exact d
theorem du{a:Type}{p:a->Bool}{es:M a}{j:Nat}(h:ml p es 0=Z j):∃e,nth es j=Z e/\p e=I:=by
 obtain⟨e,_,c,b⟩:=SJ h;exact⟨e,by simpa using c,b⟩
def ij:u Nat->Int
 |none=>-1
 |some j=>(j:Int)
inductive Bf {σ ρ:Type} (b:σ->Option (Sg σ ρ)):σ->ρ->Prop
 |out {s:σ} {r:ρ} (h:b s=some (.out r)):Bf b s r
 |go {s s':σ} {r:ρ} (h:b s=some (.go s')) (h':Bf b s' r):Bf b s r
open Classical in
noncomputable def cm{a c:Type}(b:a->u (Sg a c))(s:a):u c:=if h:∃r,Bf b s r then Z h.choose else O
theorem Qt{a c:Type}{b:a->u (Sg a c)}{s:a}{r:c}(h:cm b s=Z r):Bf b s r:=by
 unfold cm at h
 split at h
 ·rename_i d;rw[<- ey h];exact d.choose_spec
 ·cases h
theorem Bf.zw{a c:Type}{b:a->u (Sg a c)}{s:a}{r d:c}(h:Bf b s r)(e:Bf b s d):r=d:=by
 induction h with
 |out h=>
  cases e with
  |out g=>rw[h]at g;cases g;rfl
  |go g _=>rw[h]at g;cases g
 |go h _ f=>
  cases e with
  |out g=>rw[h]at g;cases g
  |go g i=>rw[h]at g;cases g;exact f i
theorem ze{a c:Type}{b:a->u (Sg a c)}{s:a}{r:c}(h:Bf b s r):cm b s=Z r:=by
 unfold cm;have d:∃r,Bf b s r:=⟨r,h⟩
 rw[dif_pos d,d.choose_spec.zw h]
theorem bg{a c:Type}{b:a->u (Sg a c)}{s:a}{r:c}(h:b s=Z (.out r)):cm b s=Z r:=ze (.out h)
theorem bY{c e:Type}{b:c->u (Sg c e)}{s s':c}(h:b s=Z (.go s')):cm b s=cm b s':=by
 by_cases d:∃r,Bf b s' r
 ·obtain⟨r,a⟩:=d;rw[ze a,ze (.go h a)]
 ·have f:¬∃r,Bf b s r:=λ⟨r,a⟩=>by
   cases a with
   |out g=>rw[h]at g;cases g
   |go g i=>rw[h]at g;cases g;exact d ⟨r,i⟩
  unfold cm;rw[dif_neg d,dif_neg f]
theorem aX{a β:Type}(f:a->β):∀(l:M a) (i:Nat),nth (l.map f) i=(nth l i).map f
 |[],_=>rfl
 |_::_,0=>rfl
 |_::l,i+1=>aX f l i
theorem wrap_i64{a:Int}(h:-9223372036854775808<=a/\a<=9223372036854775807):IntKind.i64.wrap a=a:=bH (by omega)
theorem wrap_u8{a:Int}(h:0<=a/\a<=255):IntKind.u8.wrap a=a:=by
 simp[IntKind.wrap,IntKind.bits,IntKind.signed];omega
theorem agH{c:Type}{b:Nat}{a t:M c}(d:b<=65536)(h:a.length+t.length<=2147483648):((a.length+t.length) * b<=room/\a.length+t.length<=maxLen)=True:=by
 refine eq_true ⟨aG (Nat.mul_le_mul h d) (by decide),aG h (by decide)⟩
def PC{a b c:Type}(mk:a->b):Sg a c->Sg b c
 | .go t=>.go (mk t)
 | .out r=>.out r
def sgF{b a:Type}(fin:b->a):Sg b a->a
 | .go t=>fin t
 | .out r=>r
theorem SQ{o c g j:Type}{b:g->u (Sg g j)}{es:M o}(mk:Nat->c->g)(step:Nat->c->o->Sg c j)(fin:c->j)(a:Nat->c->Prop)
  (p:∀i e t,nth es i=Z e->a i t->b (mk i t)=Z (PC (mk (i+1)) (step i t e))/\∀d,step i t e=.go d->a (i+1) d)
  (q:∀t,a es.length t->b (mk es.length t)=Z (.out (fin t))) :
  ∀m i t,i+m=es.length->a i t->cm b (mk i t)=Z (sgF fin (iD step i t (es.drop i)))
 |0,i,t,h,n=>by
  obtain rfl:i=es.length:=by omega
  rw[bg (q t n),bE];rfl
 |m+1,i,t,h,n=>by
  have a1:=cI (l:=es) (i:=i) (by omega);obtain⟨f,s⟩:=p i _ t a1 n;rw[eg es i _ a1];simp only[iD];cases k:step i t es[i]with
  |go d=>
   rw[k]at f;rw[bY f];exact SQ mk step fin a p q m (i+1) d (by omega) (s d k)
  |out r=>
   rw[k]at f;rw[bg f];rfl
theorem Al{g c d f:Type}{b:d->u (Sg d f)}(es:M g)(mk:Nat->c->d)(step:Nat->c->g->Sg c f)(fin:c->f)(a:Nat->c->Prop)(t:c)(l:a 0 t)
  (k:∀i e t,nth es i=Z e->a i t->b (mk i t)=Z (PC (mk (i+1)) (step i t e))/\∀j,step i t e=.go j->a (i+1) j)
  (m:∀t,a es.length t->b (mk es.length t)=Z (.out (fin t))):cm b (mk 0 t)=Z (sgF fin (iD step 0 t es)):=by
 have h:=SQ mk step fin a k m es.length 0 t (by omega) l
 rwa [bm]at h
theorem nP{k f j:Type}{b:f->u (Sg f j)}(es:M k)(mk:Nat->f)(p:Nat->k->Bool)(a g:j)
  (n:∀i e,nth es i=Z e->b (mk i)=Z (if p i e=I then .go (mk (i+1)) else .out g))
  (o:b (mk es.length)=Z (.out a)):∀m i,i+m=es.length->cm b (mk i)=Z (if allI p i (es.drop i)=I then a else g)
 |0,i,h=>by
  obtain rfl:i=es.length:=by omega
  rw[bg o,bE];rfl
 |m+1,i,h=>by
  have a1:=cI (l:=es) (i:=i) (by omega);have d:=n i _ a1;have q:allI p i (es.drop i)=(p i (es[i]'(by omega)) && allI p (i+1) (es.drop (i+1))):=by rw[eg es i _ a1];rfl
  rw[q];by_cases c:p i (es[i]'(by omega))=I
  ·rw[if_pos c]at d;rw[bY d,c,cW];exact nP es mk p a g n o m (i+1) (by omega)
  ·rw[if_neg c]at d;rw[bg d,ej.2 c,cP,if_neg dq]
theorem nb{g c f:Type}{b:c->u (Sg c f)}(es:M g)(mk:Nat->c)(p:g->Bool)(a d:f)
  (j:∀i e,nth es i=Z e->b (mk i)=Z (if p e=I then .go (mk (i+1)) else .out d))
  (k:b (mk es.length)=Z (.out a)):cm b (mk 0)=Z (if es.all p=I then a else d):=by
 have h:=nP es mk (λ_=>p) a d j k es.length 0 (by omega)
 rwa [bm,vM]at h
theorem SP{g d f:Type}{b:d->u (Sg d f)}(es:M g)(mk:Nat->d)(p:g->Bool)(none_:f)(k:Nat->g->f)
  (n:∀i e,nth es i=Z e->b (mk i)=Z (if p e=I then .out (k i e) else .go (mk (i+1))))
  (o:b (mk es.length)=Z (.out none_)):∀m i,i+m=es.length->cm b (mk i)=Z (match ml p (es.drop i) i with|none=>none_|some j=>match nth es j with|some e=>k j e|none=>none_)
 |0,i,h=>by
  obtain rfl:i=es.length:=by omega
  rw[bg o,bE];rfl
 |m+1,i,h=>by
  have a1:=cI (l:=es) (i:=i) (by omega);have c:=n i _ a1;rw[eg es i _ a1];simp only[ml];by_cases a:p (es[i]'(by omega))=I
  ·rw[if_pos a]at c;rw[bg c,if_pos a];simp only[a1]
  ·rw[if_neg a]at c;rw[bY c,if_neg a];exact SP es mk p none_ k n o m (i+1) (by omega)
theorem qP{d a c:Type}{b:a->u (Sg a c)}(es:M d)(mk:Nat->a)(p:d->Bool)(none_:c)(f:Nat->d->c)
  (g:∀i e,nth es i=Z e->b (mk i)=Z (if p e=I then .out (f i e) else .go (mk (i+1))))
  (k:b (mk es.length)=Z (.out none_)):cm b (mk 0)=Z (match ml p es 0 with|none=>none_|some j=>match nth es j with|some e=>f j e|none=>none_):=by
 have h:=SP es mk p none_ f g k es.length 0 (by omega)
 rwa [bm]at h
theorem cN{k c a d:Type}{b:a->u (Sg a d)}(es:M k)(mk:Nat->c->a)(f:Nat->c)(fin:d)
  (g:∀i e,nth es i=Z e->b (mk i (f i))=Z (.go (mk (i+1) (f (i+1)))))
  (j:b (mk es.length (f es.length))=Z (.out fin)):∀m i,i+m=es.length->cm b (mk i (f i))=Z fin
 |0,i,h=>by
  obtain rfl:i=es.length:=by omega
  exact bg j
 |m+1,i,h=>by
  have a1:=cI (l:=es) (i:=i) (by omega);rw[bY (g i _ a1)];exact cN es mk f fin g j m (i+1) (by omega)
def nr{β:Type}(i:Nat):M β->Int ⊕ (Int×M β)
 |[]=>.inl i
 |x::t=>.inr (i,x::t)
end
section
inductive ST where
 |nil
 |cons (a b:ST)
 |op (gs:Gs) (o:PO) (es:List SE) (t:ST)
 |gd (gs:Gs) (a b:ST)
 |call (i:Nat) (es:List SE) (ts:ST)
 |leaf (j:Nat) (es:List SE)
 |map (f:List Nat) (t:ST)
 |seq (t ts:ST)
 |loop (h:Nat) (es:List SE) (bs:ST)
 |both (a b:ST)
 deriving DecidableEq
abbrev Gf:=Nat->M D->u (Nat×M D)
def E5:u (Nat×M D)->u (Sg (Nat×M D) (Nat×M D))
 |some (j,σ)=>Z (if j % 2=0 then .go (j / 2,σ) else .out (j / 2,σ))
 |none=>O
open Classical in
noncomputable def Im{c:Type}:u c->u c->u c
 |some a,Z b=>if a=b then Z a else O
 |_,_=>O
theorem Xd{c:Type}{a b:u c}{r:c}(h:Im a b=Z r):a=Z r/\b=Z r:=by
 unfold Im at h
 split at h
 ·split at h
  ·rename_i d;cases h;subst d;exact⟨rfl,rfl⟩
  ·cases h
 ·cases h
theorem PZ{b:Type}(a:b):Im (Z a) (Z a)=Z a:=by simp[Im]
noncomputable def eV(G:Gf):ST->Nat->M D->u (Nat×M D)
 | .nil,_,_=>O
 | .cons a _,0,ρ=>eV G a 0 ρ
 | .cons _ b,j+1,ρ=>eV G b j ρ
 | .op gs o es t,_,ρ=>match jq ρ gs with
  |some I=>match iY ρ es with
   |some d=>match aZ o d with
    |some x=>eV G t 0 (ρ++[x])
    |none=>O
   |none=>O
  |some J=>eV G t 0 (ρ++[.bool J])
  |none=>O
 | .gd gs a b,_,ρ=>match jq ρ gs with
  |some I=>eV G a 0 ρ
  |some J=>eV G b 0 ρ
  |none=>O
 | .call i es e,_,ρ=>match iY ρ es with
  |some d=>match G i d with
   |some (j,ws)=>eV G e j (ρ++ws)
   |none=>O
  |none=>O
 | .leaf j es,_,ρ=>match iY ρ es with
  |some d=>Z (j,d)
  |none=>O
 | .map f t,_,ρ=>match eV G t 0 ρ with
  |some (j,c)=>(nth f j).map (·,c)
  |none=>O
 | .seq t e,_,ρ=>match eV G t 0 ρ with
  |some (j,c)=>eV G e j c
  |none=>O
 | .loop h es g,_,ρ=>match iY ρ es with
  |some c=>cm (λp=>E5 (eV G g p.1 p.2)) (h,c)
  |none=>O
 | .both a b,_,ρ=>Im (eV G a 0 ρ) (eV G b 0 ρ)
def P3(c:Nat):SB->SB×M SE
 | .d e=>(.d (.v c),[e])
 |x=>(x,[])
def yj:Nat->M SB->M SB×M SE
 |_,[]=>([],[])
 |c,x::xs=>match P3 c x with
  |(y,es)=>match yj (c+es.length) xs with
   |(ys,fs)=>(y::ys,es++fs)
def JO:Nat->M (SB ⊕ M SB)->M (SB ⊕ M SB)×M SE
 |_,[]=>([],[])
 |c,.inl x::xs=>match P3 c x with
  |(y,es)=>match JO (c+es.length) xs with
   |(ys,fs)=>(.inl y::ys,es++fs)
 |c,.inr x::xs=>match yj c x with
  |(y,es)=>match JO (c+es.length) xs with
   |(ys,fs)=>(.inr y::ys,es++fs)
def Uy(c:Nat):SC->SC×M SE
 | .b x=>match P3 c x with
  |(y,es)=>(.b y,es)
 | .agg xs=>match yj c xs with
  |(ys,es)=>(.agg ys,es)
 | .sh xs=>match JO c xs with
  |(ys,es)=>(.sh ys,es)
 | .ptr b o=>(.ptr b o,[])
 | .pQ r k i o=>(.pQ r k (.v c) o,[i])
 | .vj i o=>(.vj c o,[.v i])
 | .any=>(.any,[])
def CO(a:Gs):Nat->M (Nat×SG)->M (Nat×SG)×M SE
 |_,[]=>([],[])
 |c,(d,g)::l=>if g.gs.all (λp=>Z' (p∈a)) then (match Uy c g.c with
   |(y,es)=>match CO a (c+es.length) l with
    |(ys,fs)=>((d,⟨[],y⟩)::ys,es++fs))
  else match CO a c l with
   |(ys,fs)=>((d,⟨[],.any⟩)::ys,fs)
def It:Nat->M (Nat×M SB)->M (Nat×M SB)×M SE
 |_,[]=>([],[])
 |c,(d,x)::l=>match yj c x with
  |(y,es)=>match It (c+es.length) l with
   |(ys,fs)=>((d,y)::ys,es++fs)
def Iu:Nat->M (Nat×SR)->M (Nat×SR)×M SE
 |_,[]=>([],[])
 |c,(d,x)::l=>match Iu (c+1) l with
   |(ys,fs)=>((d,{x with e:=.v c })::ys,x.e::fs)
def ai7(d:Nat):M Nat->M Nat
 |[]=>[d]
 |e::l=>if d < e then d::e::l else if d=e then e::l else e::ai7 d l
def Ti{a:Type}:M (Nat×a)->M Nat
 |[]=>[]
 |(d,_)::l=>ai7 d (Ti l)
def SS.keys(S:SS):lE:=⟨Ti S.sl,Ti S.bx,Ti S.rw⟩
def Uz(a:Gs)(S:SS):SS×M SE:=
 match CO a 0 (S.dF S.keys).sl with
 |(sl,es)=>match It es.length (S.dF S.keys).bx with
  |(bx,fs)=>match Iu (es.length+fs.length) (S.dF S.keys).rw with
   |(rw,gs)=>(⟨sl,bx,rw⟩,es++(fs++gs))
section
variable {ρ:M D}
theorem LI{a:Type}:∀(l:M a) (x:a) (m:M a),nth (l++([x]++m)) l.length=Z x:=λl x m=>jX l x m
theorem JN{c:Nat}{x y:SB}{es:M SE}{v:C}{h:M D}(f:P3 c x=(y,es))(g:kz ρ x v)(j:iY ρ es=Z h){b σ1:M D}(m:b.length=c):kz (b++(h++σ1)) y v:=by
 subst m;cases x with
 |d e=>
  cases f;obtain⟨a,l,rfl⟩:=g;obtain⟨w,i,rfl⟩:=fj j;rw[l]at i;cases i;exact⟨a,LI _ _ _,rfl⟩
 |nil k n=>cases f;exact g
 |ref r=>cases f;exact g
 |any=>cases f;trivial
theorem nn:∀{es fs:M SE} {c:M D},iY ρ (es++fs)=Z c->∃b a,iY ρ es=Z b/\iY ρ fs=Z a/\c=b++a
 |[],_,c,h=>⟨[],c,rfl,h,rfl⟩
 |e::es,_,_,h=>by
  obtain⟨x,ys,i,g,rfl⟩:=dE (es:=es++_) h;obtain⟨b,a,f,d,rfl⟩:=nn g;exact⟨x::b,a,by simp only[iY,i,f,aQ],d,rfl⟩
theorem zP:∀{b:M SB} {c:Nat} {ys:M SB} {es:M SE} {f:M C} {e σ0 σ1:M D},yj c b=(ys,es)->eO ρ b f->iY ρ es=Z e->σ0.length=c->eO (σ0++(e++σ1)) ys f
 |[],_,_,_,_,_,_,_,a,j,h,g=>by
  cases a;exact j
 |x::b,c,ys,es,f,e,σ0,σ1,a,⟨v,r,k,p,o⟩,h,g=>by
  subst k;simp only[yj]at a;generalize n:P3 c x=q at a;obtain⟨y,t⟩:=q;simp only at a
  generalize m:yj (c+t.length) b=q at a;obtain⟨w,fs⟩:=q;cases a;obtain⟨s,d,i,l,rfl⟩:=nn h;refine⟨v,r,rfl,?_,?_⟩
  ·have:=JN n p i g (σ1:=d++σ1)
   simpa only [bB] using this
  ·have:=zP m o l (σ0:=σ0++s) (σ1:=σ1) (by rw[bh,g,ly i])
   simpa only [bB] using this
theorem JP:∀{d:M (SB ⊕ M SB)} {c:Nat} {ys:M (SB ⊕ M SB)} {es:M SE} {h:M C} {g σ0 σ1:M D},JO c d=(ys,es)->vK ρ d h->iY ρ es=Z g->σ0.length=c->vK (σ0++(g++σ1)) ys h
 |[],_,_,_,_,_,_,_,a,t,i,e=>by
  cases a;exact t
 | .inl x::d,c,ys,es,h,g,σ0,σ1,a,⟨v,p,j,o,n⟩,i,e=>by
  subst j;simp only[JO]at a;generalize m:P3 c x=q at a;obtain⟨y,s⟩:=q;simp only at a
  generalize l:JO (c+s.length) d=q at a;obtain⟨w,fs⟩:=q;cases a;obtain⟨r,b,f,k,rfl⟩:=nn i;refine⟨v,p,rfl,?_,?_⟩
  ·have:=JN m o f e (σ1:=b++σ1)
   simpa only [bB] using this
  ·have:=JP l n k (σ0:=σ0++r) (σ1:=σ1) (by rw[bh,e,ly f])
   simpa only [bB] using this
 | .inr x::d,c,ys,es,h,g,σ0,σ1,a,⟨v,p,j,o,n⟩,i,e=>by
  subst j;simp only[JO]at a;generalize m:yj c x=q at a;obtain⟨y,s⟩:=q;simp only at a
  generalize l:JO (c+s.length) d=q at a;obtain⟨w,fs⟩:=q;cases a;obtain⟨r,b,f,k,rfl⟩:=nn i;refine⟨v,p,rfl,?_,?_⟩
  ·have:=zP m o f e (σ1:=b++σ1)
   simpa only [bB] using this
  ·have:=JP l n k (σ0:=σ0++r) (σ1:=σ1) (by rw[bh,e,ly f])
   simpa only [bB] using this
theorem aaZ{c:Nat}{x y:SC}{es:M SE}{v:C}{t:M D}(a:Uy c x=(y,es))(g:lK ρ x v)(j:iY ρ es=Z t){h σ1:M D}(l:h.length=c):lK (h++(t++σ1)) y v:=by
 cases x with
 |b x=>
  simp only[Uy]at a;generalize e:P3 c x=q at a;obtain⟨A,B⟩:=q;cases a;exact JN e g j l
 |agg s=>
  simp only[Uy]at a;generalize e:yj c s=q at a;obtain⟨A,B⟩:=q;cases a;obtain⟨m,rfl,f⟩:=g;exact⟨m,rfl,zP e f j l⟩
 |sh s=>
  simp only[Uy]at a;generalize e:JO c s=q at a;obtain⟨A,B⟩:=q;cases a;obtain⟨m,rfl,f⟩:=g;exact⟨m,rfl,JP e f j l⟩
 |ptr b o=>cases a;exact g
 |pQ r k i o=>
  cases a;subst l;obtain⟨n,f,rfl⟩:=g;obtain⟨w,p,rfl⟩:=fj j;rw[f]at p;cases p;exact⟨n,LI _ _ _,rfl⟩
 |vj i o=>
  cases a;subst l;obtain⟨x,m,f,p,rfl⟩:=g;obtain⟨w,e,rfl⟩:=fj j;rw[SE.d,f]at e;cases e;exact⟨x,m,LI _ _ _,p,rfl⟩
 |any=>cases a;trivial
theorem Ey{f:Gs}(n:jq ρ f=Z I):∀{l:M (Nat×SG)} {c:Nat} {m:M (Nat×SG)} {es:M SE} {k σ0 σ1:M D},CO f c l=(m,es)->iY ρ es=Z k->σ0.length=c->
  ∀d g,look m d=Z g->∃e,look l d=Z e/\∀v,su ρ e v->su (σ0++(k++σ1)) g v
 |[],_,_,_,_,_,_,a,o,i=>by
  cases a;intro d g h;cases h
 |(d0,e)::l,c,m,es,k,σ0,σ1,a,o,i=>by
  intro d g h;simp only[CO]at a
  split at a
  ·rename_i t;generalize x:Uy c e.c=q at a;obtain⟨y,C⟩:=q;simp only at a
   generalize p:CO f (c+C.length) l=q at a;obtain⟨B,fs⟩:=q;cases a;obtain⟨A,j,s,w,rfl⟩:=nn o;simp only[look]at h ⊢
   split at h
   ·rename_i hd;cases h;refine⟨e,by rw[if_pos hd],λv r=>?_⟩;obtain⟨b,q1,q2,F⟩:=r;rw[Qv n t]at q1;cases q1;have:=aaZ x (q2 rfl) s i (σ1:=j++σ1);exact su.nil (by simpa only [bB] using this)
   ·rename_i hd;rw[if_neg hd];have:=Ey n p w (σ0:=σ0++A) (σ1:=σ1) (by rw[bh,i,ly s]) d g h
    simpa only [bB] using this
  ·generalize p:CO f c l=q at a;obtain⟨B,fs⟩:=q;cases a;simp only[look]at h ⊢
   split at h
   ·rename_i hd;cases h;exact⟨e,by rw[if_pos hd],λv r=>su.nil trivial⟩
   ·rename_i hd;rw[if_neg hd];exact Ey n p o i d g h
theorem MY:∀{l:M (Nat×M SB)} {c:Nat} {i:M (Nat×M SB)} {es:M SE} {f σ0 σ1:M D},It c l=(i,es)->iY ρ es=Z f->σ0.length=c->
  ∀d g,look i d=Z g->∃b,look l d=Z b/\∀v,eO ρ b v->eO (σ0++(f++σ1)) g v
 |[],_,_,_,_,_,_,a,k,j=>by
  cases a;intro d g h;cases h
 |(d0,b)::l,c,i,es,f,σ0,σ1,a,k,j=>by
  intro d g h;simp only[It]at a;generalize r:yj c b=q at a;obtain⟨y,t⟩:=q;simp only at a
  generalize p:It (c+t.length) l=q at a;obtain⟨w,fs⟩:=q;cases a;obtain⟨s,e,m,o,rfl⟩:=nn k;simp only[look]at h ⊢
  split at h
  ·rename_i hd;cases h;refine⟨b,by rw[if_pos hd],λv n=>?_⟩;have:=zP r n m j (σ1:=e++σ1)
   simpa only [bB] using this
  ·rename_i hd;rw[if_neg hd];have:=MY p o (σ0:=σ0++s) (σ1:=σ1) (by rw[bh,j,ly m]) d g h
   simpa only [bB] using this
theorem MZ:∀{l:M (Nat×SR)} {c:Nat} {i:M (Nat×SR)} {es:M SE} {f σ0 σ1:M D},Iu c l=(i,es)->iY ρ es=Z f->σ0.length=c->
  ∀d g,look i d=Z g->∃b,look l d=Z b/\∀v,SRr ρ b v->SRr (σ0++(f++σ1)) g v
 |[],_,_,_,_,_,_,a,m,j=>by
  cases a;intro d g h;cases h
 |(d0,b)::l,c,i,es,f,σ0,σ1,a,m,j=>by
  intro d g h;simp only[Iu]at a;generalize r:Iu (c+1) l=q at a;obtain⟨t,fs⟩:=q;cases a;obtain⟨x,e,p,o,rfl⟩:=dE m;simp only[look]at h ⊢
  split at h
  ·rename_i hd;cases h;refine⟨b,by rw[if_pos hd],λv n=>?_⟩;obtain⟨s,k,rfl⟩:=n;rw[p]at k;cases k;subst j;exact⟨s,jX σ0 _ (e++σ1),rfl⟩
  ·rename_i hd;rw[if_neg hd];have:=MZ r o (σ0:=σ0++[x]) (σ1:=σ1) (by rw[bh,j];rfl) d g h
   simpa only [bB,au,av] using this
theorem Rel.ape{S:SS}{s:St}(h:Rel ρ S s)(e:lE):Rel ρ (S.dF e) s:=
 ⟨λd g a=>h.sl d g (iU _ _ a).1,λb c a=>h.bx b c (iU _ _ a).1,λr x a=>h.rw r x (iU _ _ a).1⟩
theorem Sj{S v:SS}{s:St}{l:Gs}{es:M SE}{p:M D}(h:Rel ρ S s)(B:jq ρ l=Z I)(a:Uz l S=(v,es))(C:iY ρ es=Z p):Rel p v s:=by
 have h:=h.ape S.keys;unfold Uz at a;generalize H:CO l 0 (S.dF S.keys).sl=q at a;obtain⟨sl,w⟩:=q;simp only at a
 generalize G:It w.length (S.dF S.keys).bx=q at a;obtain⟨bx,n⟩:=q;simp only at a
 generalize F:Iu (w.length+n.length) (S.dF S.keys).rw=q at a;obtain⟨A,N⟩:=q;cases a;obtain⟨σ1,P,m,L,rfl⟩:=nn C;obtain⟨e,c,t,K,rfl⟩:=nn L;refine⟨λd g f=>?_,λb y f=>?_,λr x f=>?_⟩
 ·obtain⟨i,q1,q2⟩:=Ey B H m (σ0:=[]) (σ1:=e++c) rfl d g f;exact q2 _ (h.sl d i q1)
 ·obtain⟨i,q1,q2⟩:=MY G t (σ0:=σ1) (σ1:=c) (ly m) b y f;obtain⟨o,k,j⟩:=h.bx b i q1;exact⟨o,k,q2 _ j⟩
 ·obtain⟨i,q1,q2⟩:=MZ F K (σ0:=σ1++e) (σ1:=[]) (by rw[bh,ly m,ly t]) r x f;obtain⟨o,k,j⟩:=h.rw r i q1;refine⟨o,k,?_⟩;have:=q2 _ j
  simpa only [bB,aK] using this
end
end
section
inductive JK where
 |d
 |row (k:Nat) (fl deep app fz:Bool)
 deriving DecidableEq
inductive SA where
 |val (ag:Bool) (l:List JK)
 |box (l:List JK)
 deriving DecidableEq
structure ny where
 f:Nat
 args:List SA
 res:List (List SA×List SA)
 deriving DecidableEq
def SA.n:SA->Nat
 | .val _ l=>l.length
 | .box l=>l.length
def SA.l:SA->M JK
 | .val _ l=>l
 | .box l=>l
def EK:JK->D->u RV
 | .d,x=>Z (.d x)
 | .row k a deep app fz,.list c b es=>if c=k/\b=a then Z (.row ⟨es,k,a,deep,app,fz⟩) else O
 |_,_=>O
def ot:M JK->M D->u (M RV)
 |[],[]=>Z []
 |v::a,x::xs=>match EK v x with
  |some r=>(ot a xs).map (r::·)
  |none=>O
 |_,_=>O
def nM:SA->M D->u A
 | .val a l,xs=>(ot l xs).map (.val a)
 | .box l,xs=>(ot l xs).map .box
def iC:M SA->M D->u (M A)
 |[],[]=>Z []
 |[],_::_=>O
 |a::as,xs=>match nM a (xs.take a.n) with
  |some r=>(iC as (xs.drop a.n)).map (r::·)
  |none=>O
def zR:M SA->Nat
 |[]=>0
 |a::as=>a.n+zR as
def Ad(v:M SA×M SA)(a:M D):u (M A×M A):=
 match iC v.1 (a.take (zR v.1)),iC v.2 (a.drop (zR v.1)) with
 |some rs,Z outs=>Z (rs,outs)
 |_,_=>O
def Gok(e:Cf)(d:M (Nat×ny))(G:Gf):Prop:=
 ∀i a,look d i=Z a->∀b j c,G i b=Z (j,c)->∃as r v,iC a.args b=Z as/\nth a.res j=Z v/\Ad v c=Z r/\e a.f as=Z r
def rdS(S:SS):SB->u SE
 | .d e=>Z e
 | .nil k a=>Z (.k (.nil k a))
 | .ref r=>(look S.rw r).map (·.e)
 | .any=>O
def wrS(S:SS):SB->u (JK×SE)
 | .d e=>Z (.d,e)
 | .nil k a=>Z (.row k a I I J,.k (.nil k a))
 | .ref r=>(look S.rw r).map λx=>(.row x.k x.fl x.deep x.app x.fz,x.e)
 | .any=>O
def SC.isAgg:SC->Bool
 | .agg _=>I
 |_=>J
def ac1(S:SS):SC->u (SA×M SE)
 | .ptr b 0=>match look S.bx b with
  |some a=>(gB (wrS S) a).map λl=>(.box (l.map (·.1)),l.map (·.2))
  |none=>O
 |c=>match c.cells with
  |some a=>(gB (rdS S) a).map λl=>(.val c.isAgg (l.map λ_=>.d),l)
  |none=>O
def O0(S:SS):M SC->u (M SA×M SE)
 |[]=>Z ([],[])
 |c::cs=>match ac1 S c with
  |some (a,es)=>(O0 S cs).map λp=>(a::p.1,es++p.2)
  |none=>O
def gD:M SB->M Nat
 |[]=>[]
 | .ref r::cs=>r::gD cs
 |_::cs=>gD cs
def uR(S:SS):SC->M Nat
 | .ptr b 0=>gD ((look S.bx b).getD [])
 |_=>[]
def uQ(S:SS):M SC->M Nat
 |[]=>[]
 |c::cs=>uR S c++uQ S cs
def C1:M SC->M Nat
 |[]=>[]
 |c::cs=>gD (c.cells.getD [])++C1 cs
def sy:M SC->M Nat
 |[]=>[]
 | .ptr b _::cs=>b::sy cs
 |_::cs=>sy cs
section
variable {ρ:M D} {S:SS} {s:St}
theorem agF(h:Rel ρ S s){x:SB}{v:C}{e:SE}(a:kz ρ x v)(b:rdS S x=Z e):∃y,e.d ρ=Z y/\ni s v=Z (.d y):=by
 cases x with
 |d j=>cases b;obtain⟨y,c,rfl⟩:=a;exact⟨y,c,rfl⟩
 |nil k i=>cases b;simp only[kz]at a;subst a;exact⟨_,rfl,rfl⟩
 |ref r=>
  simp only[kz]at a;subst a;obtain⟨x,c,rfl⟩:=ak.1 b;obtain⟨y,g,es,f,rfl⟩:=h.rw r x c;exact⟨_,f,by simp only[ni,g,aQ]⟩
 |any=>cases b
theorem ag3(h:Rel ρ S s){x:SB}{v:C}{p:JK×SE}(a:kz ρ x v)(b:wrS S x=Z p):∃y r,p.2.d ρ=Z y/\j_ s v=Z r/\EK p.1 y=Z r:=by
 cases x with
 |d i=>cases b;obtain⟨y,c,rfl⟩:=a;exact⟨y,_,c,rfl,rfl⟩
 |nil k g=>cases b;simp only[kz]at a;subst a;exact⟨_,_,rfl,rfl,by simp[SK.d,EK]⟩
 |ref r=>
  simp only[kz]at a;subst a;obtain⟨x,c,rfl⟩:=ak.1 b;obtain⟨y,f,es,e,rfl⟩:=h.rw r x c;exact⟨_,.row ⟨es,x.k,x.fl,x.deep,x.app,x.fz⟩,e,by simp only[j_,f,aQ],by simp[EK]⟩
 |any=>cases b
theorem T6(h:Rel ρ S s):∀{g:M SB} {b:M C} {es:M SE},eO ρ g b->gB (rdS S) g=Z es->∃ys c,iY ρ es=Z ys/\gB (ni s) b=Z c/\ot (es.map λ_=>.d) ys=Z c
 |[],b,_,f,a=>by cases a;simp only[eO]at f;subst f;exact⟨[],[],rfl,rfl,rfl⟩
 |x::g,_,es,⟨v,b,f,q,p⟩,a=>by
  subst f;simp only[gB]at a
  split at a
  ·rename_i e i;obtain⟨r,o,rfl⟩:=ak.1 a;obtain⟨y,n,m⟩:=agF h q i;obtain⟨ys,c,l,k,j⟩:=T6 h p o;exact⟨y::ys,.d y::c,by simp only[iY,n,l,aQ],by simp only[gB,m,k,aQ],by simp only[aW,ot,EK,j,aQ]⟩
  ·cases a
theorem Ek(h:Rel ρ S s):∀{e:M SB} {b:M C} {f:M (JK×SE)},eO ρ e b->gB (wrS S) e=Z f->∃ys c,iY ρ (f.map (·.2))=Z ys/\gB (j_ s) b=Z c/\ot (f.map (·.1)) ys=Z c
 |[],b,_,d,a=>by cases a;simp only[eO]at d;subst d;exact⟨[],[],rfl,rfl,rfl⟩
 |x::e,_,es,⟨v,b,d,t,q⟩,a=>by
  subst d;simp only[gB]at a
  split at a
  ·rename_i p g;obtain⟨w,o,rfl⟩:=ak.1 a;obtain⟨y,r,n,m,i⟩:=ag3 h t g;obtain⟨ys,c,l,k,j⟩:=Ek h q o;exact⟨y::ys,r::c,by simp only[aW,iY,n,l,aQ],by simp only[gB,m,k,aQ],by simp only[aW,ot,i,j,aQ]⟩
  ·cases a
theorem oz:∀{l:M JK} {a:M D} {b:M RV},ot l a=Z b->a.length=l.length
 |[],[],_,_=>rfl
 |[],_::_,_,h=>by cases h
 |_::_,[],_,h=>by cases h
 |v::l,x::a,b,h=>by
  simp only[ot]at h
  split at h
  ·obtain⟨ys,c,_⟩:=ak.1 h;simp[oz c]
  ·cases h
theorem tM{a β:Type}{f:a->u β}{p:a->Bool}(c:∀x y,f x=Z y->p x=I):∀{b:M a} {ys:M β},gB f b=Z ys->b.all p=I
 |[],_,_=>rfl
 |x::b,_,h=>by
  simp only[gB]at h
  split at h
  ·rename_i y d;obtain⟨ys,e,_⟩:=ak.1 h;simp only[cX,c x y d,tM c e,jm]
  ·cases h
theorem ZS{x:SB}{e:SE}(h:rdS S x=Z e):x.cell=I:=by cases x<;>first|rfl|cases h
theorem A_{x:SB}{e:JK×SE}(h:wrS S x=Z e):x.cell=I:=by cases x<;>first|rfl|cases h
theorem oW:∀{c:M SB} {f:M C},eO ρ c f->c.all SB.cell=I->rowsOf f=gD c
 |[],_,h,_=>by simp only[eO]at h;subst h;rfl
 |x::c,_,⟨v,f,i,b,g⟩,a=>by
  subst i;simp only[cX,ai]at a;cases x with
  |d e=>obtain⟨y,_,rfl⟩:=b;simp only[rowsOf,gD];exact oW g a.2
  |nil k j=>simp only[kz]at b;subst b;simp only[rowsOf,gD];exact oW g a.2
  |ref r=>simp only[kz]at b;subst b;simp only[rowsOf,gD,oW g a.2]
  |any=>cases a.1
def WJ(c:SC)(v:C):Prop:=(∃b,c=.ptr b 0/\v=.ptr b 0)\/((∀b o,c≠.ptr b o)/\∀b o,v≠.ptr b o)
theorem ac2(h:Rel ρ S s){c:SC}{v:C}{a:SA}{es:M SE}(q:lK ρ c v)(g:ac1 S c=Z (a,es)) :
  ∃f r,iY ρ es=Z f/\V8 s v=Z r/\nM a f=Z r/\f.length=a.n/\tO s v=uR S c/\rowsOf v.cells=gD (c.cells.getD [])/\WJ c v:=by
 have val:∀{i:M SB} {l:M SE},c.cells=Z i->gB (rdS S) i=Z l->a=.val c.isAgg (l.map λ_=>.d)->es=l->(∀b o,c≠.ptr b o)->
   ∃f r,iY ρ es=Z f/\V8 s v=Z r/\nM a f=Z r/\f.length=a.n/\tO s v=uR S c/\rowsOf v.cells=gD (c.cells.getD [])/\WJ c v:=by
  rintro i l e j rfl rfl t
  have A:=tM (λ_ _=>ZS) j;have H:=q.cells e A;obtain⟨ys,F,m,k,y⟩:=T6 h H j;have G:∀b o,v≠.ptr b o:=by
   rintro b o rfl
   cases c with
   |b x=>
    cases e;have:=kz.cell q (by simpa using A);cases this
   |agg ys=>obtain⟨L,B,_⟩:=q;cases B
   |ptr b o=>exact t b o rfl
   |sh _=>cases e
   |pQ _ _ _ _=>cases e
   |vj _ _=>cases e
   |any=>cases e
  have P:v.isAgg=c.isAgg:=by
   cases c with
   |b x=>
    cases e;have:=kz.cell q (by simpa using A);cases v<;>first|rfl|cases this
   |agg ys=>obtain⟨L,rfl,_⟩:=q;rfl
   |ptr b o=>exact absurd rfl (t b o)
   |sh _=>cases e
   |pQ _ _ _ _=>cases e
   |vj _ _=>cases e
   |any=>cases e
  refine⟨ys,.val v.isAgg F,m,?_,by rw[P];simp only[nM,y,aQ],by rw[oz y];rfl,?_,?_,.inr ⟨t,G⟩⟩
  ·unfold V8;split
   ·exact absurd rfl (G _ _)
   ·simp only[k,aQ]
  ·have:tO s v=[]:=by
    unfold tO;split
    ·exact absurd rfl (G _ _)
    ·rfl
   rw[this];unfold uR;split
   ·exact absurd rfl (t _ _)
   ·rfl
  ·rw[e,oW H A];rfl
 have box:∀{b:Nat} {i:M SB} {l:M (JK×SE)},c=.ptr b 0->look S.bx b=Z i->gB (wrS S) i=Z l->a=.box (l.map (·.1))->es=l.map (·.2)->
   ∃f r,iY ρ es=Z f/\V8 s v=Z r/\nM a f=Z r/\f.length=a.n/\tO s v=uR S c/\rowsOf v.cells=gD (c.cells.getD [])/\WJ c v:=by
  rintro b i l rfl j m rfl rfl
  simp only[lK]at q;subst q;obtain⟨L,y,B⟩:=h.bx b i j;obtain⟨ys,F,R,Q,K⟩:=Ek h B m;refine⟨ys,.box F,R,by simp only[V8,y,Q,aQ],by simp only[nM,K,aQ],by rw[oz K];rfl,?_,rfl,.inl ⟨b,rfl,rfl⟩⟩;have:=oW B (tM (p:=SB.cell) (λ_ _=>A_) m);simp only[tO,uR,y,j,jo,this]
 have w:(∀b o,c≠.ptr b o)->(match c.cells with
  |some i=>(gB (rdS S) i).map λl=>(SA.val c.isAgg (l.map λ_=>JK.d),l)
  |none=>O)=Z (a,es)->∃f r,iY ρ es=Z f/\V8 s v=Z r/\nM a f=Z r/\f.length=a.n/\tO s v=uR S c/\rowsOf v.cells=gD (c.cells.getD [])/\WJ c v:=by
  intro t g;rcases e:c.cells with _|i
  ·rw[e]at g;cases g
  ·have N:=g;rw[e]at N;obtain⟨l,m,k⟩:=ak.1 N;simp only[aI]at k;have:=val e m k.1.symm k.2.symm t;rw[e]at this;exact this
 cases c with
 |ptr b o=>
  cases o with
  |zero=>
   rcases j:look S.bx b with _|i
   ·simp only[ac1,j]at g;cases g
   ·simp only[ac1,j]at g;obtain⟨l,m,k⟩:=ak.1 g;simp only[aI]at k;have:=box rfl j m k.1.symm k.2.symm;exact this
  |succ o=>cases g
 |b x=>exact w (λ_ _ h=>by cases h) g
 |agg x=>exact w (λ_ _ h=>by cases h) g
 |sh x=>exact w (λ_ _ h=>by cases h) g
 |pQ _ _ _ _=>exact w (λ_ _ h=>by cases h) g
 |vj _ _=>exact w (λ_ _ h=>by cases h) g
 |any=>exact w (λ_ _ h=>by cases h) g
def R7:M SC->M C->Prop
 |[],a=>a=[]
 |c::cs,a=>∃v b,a=v::b/\WJ c v/\R7 cs b
theorem take_left'{c:Type}{a b:M c}{n:Nat}(h:a.length=n):(a++b).take n=a:=by subst h;exact oR
theorem drop_left'{c:Type}{a b:M c}{n:Nat}(h:a.length=n):(a++b).drop n=b:=by subst h;exact zr
theorem O2(h:Rel ρ S s):∀{e:M SC} {d:M C} {as:M SA} {es:M SE},JJ ρ e d->O0 S e=Z (as,es)->
  ∃g i,iY ρ es=Z g/\A6 s d=Z i/\iC as g=Z i/\dN s d=uQ S e/\jG d=C1 e/\db d=sy e/\R7 e d
 |[],_,_,_,j,f=>by
  simp only[JJ]at j;subst j;cases f;exact⟨[],[],rfl,rfl,rfl,rfl,rfl,rfl,rfl⟩
 |c::e,_,as,es,⟨v,d,j,N,L⟩,f=>by
  subst j;simp only[O0]at f
  split at f
  ·rename_i a U K;obtain⟨p,H,o⟩:=ak.1 f;obtain⟨T,P⟩:=p;simp only[aI]at o;obtain⟨rfl,rfl⟩:=o;obtain⟨g,r,q1,q2,G,n,F,B,m⟩:=ac2 h N K;obtain⟨k,i,A,y,x,w,t,l,q⟩:=O2 h L H;refine⟨g++k,r::i,rU q1 A,by simp only[A6,q2,y,aQ],?_,by simp only[dN,uQ,F,w],by simp only[jG,C1,B,t],?_,v,d,rfl,m,q⟩
   ·simp only[iC,take_left' n,drop_left' n,G,x,aQ]
   ·rcases m with ⟨b,rfl,rfl⟩|⟨n1,n2⟩
    ·simp only[db,sy,l]
    ·have R:sy (c::e)=sy e:=by
      cases c<;>first|rfl|exact absurd rfl (n1 _ _)
     have Q:db (v::d)=db d:=by
      cases v<;>first|rfl|exact absurd rfl (n2 _ _)
     rw[R,Q,l]
  ·cases f
def Loc(ρ:M D)(c:Nat)(a:M D):Prop:=∀i x,nth a i=Z x->nth ρ (c+i)=Z x
theorem Loc.tail{c:Nat}{x:D}{a:M D}(h:Loc ρ c (x::a)):Loc ρ (c+1) a:=λi y b=>by
 have:=h (i+1) y b;rw[cQ,Nat.add_comm 1 i];exact this
theorem Loc.drop:∀{a:M D} {c:Nat} (n:Nat),Loc ρ c a->Loc ρ (c+n) (a.drop n)
 |a,c,0,h=>h
 |[],c,n+1,h=>λi y b=>by cases b
 |x::a,c,n+1,h=>by
  have:=Loc.drop n h.tail;rw[cQ,Nat.add_comm 1 n]at this;exact this
theorem OB{a:Type}:∀{us:M a} {n i:Nat} {x:a},nth (us.take n) i=Z x->nth us i=Z x
 |[],n,i,x,h=>by simp[nth]at h
 |y::us,0,i,x,h=>by simp[nth]at h
 |y::us,n+1,0,x,h=>h
 |y::us,n+1,i+1,x,h=>OB (us:=us) h
theorem Loc.take{a:M D}{c:Nat}(n:Nat)(h:Loc ρ c a):Loc ρ c (a.take n):=λi x b=>h i x (OB b)
theorem Loc.new(a:M D):Loc (ρ++a) ρ.length a:=by
 intro i x c
 induction ρ with
 |nil=>simpa using c
 |cons y ρ b=>rw[aH,Nat.add_right_comm];exact b
def QN(d:Nat):Nat->M JK->Nat->SS->M SB×SS
 |_,[],_,S=>([],S)
 |j,.d::l,c,S=>match QN d (j+1) l (c+1) S with
  |(xs,a)=>(.d (.v c)::xs,a)
 |j,.row k b deep app fz::l,c,S=>match QN d (j+1) l (c+1) (S.newRow (yc d j) ⟨.v c,k,b,deep,app,fz⟩) with
  |(xs,a)=>(.ref (yc d j)::xs,a)
theorem BO{d:Nat}:∀{l:M JK} {j c:Nat} {S p:SS} {s:St} {B:M D} {n:M RV} {m:M SB},Rel ρ S s->ot l B=Z n->Loc ρ c B->QN d j l c S=(m,p)->
  ∃i f,ft d j n s=(i,f)/\Rel ρ p f/\eO ρ m i
 |[],j,c,S,p,s,[],n,m,h,b,o,e=>by
  cases b;cases e;exact⟨[],s,rfl,h,rfl⟩
 |[],_,_,_,_,_,_::_,_,_,_,b,_,_=>by cases b
 |_::_,_,_,_,_,_,[],_,_,_,b,_,_=>by cases b
 |v::l,j,c,S,p,s,a::B,n,m,h,b,o,e=>by
  simp only[ot]at b
  split at b
  ·rename_i r g;obtain⟨P,K,rfl⟩:=ak.1 b;have H:=o 0 a rfl;cases v with
   |d=>
    cases g;simp only[QN]at e;generalize C:QN d (j+1) l (c+1) S=q at e;obtain⟨ys,N⟩:=q;cases e;obtain⟨i,f,A,w,t⟩:=BO h K o.tail C;exact⟨.d a::i,f,by simp only[ft,A],w,_,_,rfl,⟨a,H,rfl⟩,t⟩
   |row k Q deep app fz=>
    cases a with
    |list G F es=>
     simp only[EK]at g
     split at g
     ·rename_i L;obtain⟨rfl,rfl⟩:=L;cases g;simp only[QN]at e;generalize C:QN d (j+1) l (c+1) _=q at e;obtain⟨ys,N⟩:=q;cases e;obtain⟨i,f,A,w,t⟩:=BO (h.newRow (yc d j) (x:=⟨.v c,G,F,deep,app,fz⟩) (y:=⟨es,G,F,deep,app,fz⟩) ⟨es,H,rfl⟩) K o.tail C;exact⟨.ref (yc d j)::i,f,by simp only[ft,A],w,_,_,rfl,rfl,t⟩
     ·cases g
    |_=>cases g
  ·cases b
def zn:SS->M SC->M SA->Nat->u SS
 |S,[],_,_=>Z S
 |S,.ptr b 0::cs,.box l::outs,c=>match QN (b+500) 0 l c S with
  |(xs,a)=>zn (a.fY b xs) cs outs (c+l.length)
 |S,.ptr _ _::_,_,_=>O
 |S,_::cs,outs,c=>zn S cs outs c
def acR(d:Nat):Nat->M SA->Nat->SS->u (M (SB ⊕ M SB)×SS)
 |_,[],_,S=>Z ([],S)
 |q,.val a l::rs,c,S=>match QN d (30 * q) l c S with
  |(xs,b)=>match acR d (q+1) rs (c+l.length) b with
   |some (ms,S2)=>if a=I then Z (.inr xs::ms,S2) else match xs with
    |[x]=>Z (.inl x::ms,S2)
    |_=>O
   |none=>O
 |_,.box _::_,_,_=>O
theorem ja{a:SA}{as:M SA}{c:M D}{d:M A}(h:iC (a::as) c=Z d):∃r b,nM a (c.take a.n)=Z r/\iC as (c.drop a.n)=Z b/\d=r::b:=by
 simp only[iC]at h
 split at h
 ·rename_i r e;obtain⟨b,f,rfl⟩:=ak.1 h;exact⟨r,b,e,f,rfl⟩
 ·cases h
theorem T_{d:Nat}:∀{l:M SA} {q c:Nat} {S k:SS} {s:St} {e:M D} {f:M A} {g:M (SB ⊕ M SB)},Rel ρ S s->iC l e=Z f->Loc ρ c e->acR d q l c S=Z (g,k)->
  ∃j t,gF d q f s=(j,t)/\Rel ρ k t/\vK ρ g j
 |[],q,c,S,k,s,e,f,g,h,i,n,b=>by
  cases e with
  |nil=>
   cases i;cases b;exact⟨[],s,rfl,h,rfl⟩
  |cons a e=>cases i
 | .box _::_,_,_,_,_,_,_,_,_,_,_,_,b=>by cases b
 | .val Q l::as,q,c,S,k,s,e,f,g,h,i,n,b=>by
  obtain⟨r,X,w,L,rfl⟩:=ja i;simp only[nM]at w;obtain⟨T,K,rfl⟩:=ak.1 w;simp only[acR]at b;generalize H:QN d (30 * q) l c S=p at b;obtain⟨R,W⟩:=p;simp only at b
  obtain⟨j,V,y,x,o⟩:=BO h K (n.take _) H
  split at b
  ·rename_i F S2 G;obtain⟨v,C,v1,v2,v3⟩:=T_ x L (n.drop _) G;refine⟨_,C,by simp only[gF,y,v1];rfl,?_⟩
   split at b
   ·rename_i m;cases b;subst m;exact⟨v2,j,v,rfl,o,v3⟩
   ·rename_i m
    split at b
    ·cases b;obtain⟨P,N,rfl,B,U⟩:=o;have:Q=J:=by simpa using m
     subst this;exact⟨v2,P,v,rfl,B,v3⟩
    ·cases b
  ·cases b
theorem CC:∀{f:M SC} {e:M C} {l:M SA} {c:Nat} {S j:SS} {s:St} {g:M D} {outs:M A},Rel ρ S s->R7 f e->iC l g=Z outs->Loc ρ c g->zn S f l c=Z j->Rel ρ j (l6 s e outs)
 |[],e,l,c,S,j,s,g,outs,h,m,k,i,d=>by
  simp only[R7]at m;subst m;cases d;exact h
 |x::f,_,l,c,S,j,s,g,outs,h,⟨v,e,B,K,o⟩,k,i,d=>by
  subst B;rcases K with ⟨b,rfl,rfl⟩|⟨n1,n2⟩
  ·cases l with
   |nil=>cases d
   |cons a l=>
    cases a with
    |val U l=>cases d
    |box y=>
     obtain⟨r,W,n,H,rfl⟩:=ja k;simp only[nM]at n;obtain⟨Q,G,rfl⟩:=ak.1 n;simp only[zn]at d;generalize F:QN (b+500) 0 y c S=p at d;obtain⟨P,V⟩:=p;simp only at d
     obtain⟨T,R,w,t,q⟩:=BO h G (i.take _) F;simp only[l6,w];exact CC (t.fY b q) o H (i.drop _) d
  ·have N:zn S (x::f) l c=zn S f l c:=by
    cases x<;>first|rfl|exact absurd rfl (n1 _ _)
   have L:l6 s (v::e) outs=l6 s e outs:=by
    cases v<;>first|rfl|exact absurd rfl (n2 _ _)
   rw[N]at d;rw[L];exact CC h o k i d
def SR.share(r:SR):SR:={r with fz:=I,deep:=r.fl }
def pK(S:SS):M Nat->u SS
 |[]=>Z S
 |r::rs=>match look S.rw r with
  |some x=>pK (S.setRow r x.share) rs
  |none=>O
theorem qC:∀{rs:M Nat} {S S':SS} {s:St},Rel ρ S s->pK S rs=Z S'->Rel ρ S' (eY s rs)
 |[],S,S',s,h,a=>by cases a;exact h
 |r::rs,S,S',s,h,a=>by
  simp only[pK]at a
  split at a
  ·rename_i x b;obtain⟨y,d,es,c,rfl⟩:=h.rw r x b;simp only[eY,d];exact qC (h.setRow r (x:=x.share) (y:=Row.share _) ⟨es,c,rfl⟩) a
  ·cases a
def Bx(S:SS):M Nat->SS
 |[]=>S
 |r::rs=>Bx (S.dd r) rs
def yB(S:SS):M Nat->SS
 |[]=>S
 |b::a=>yB {S with bx:=ti S.bx b } a
theorem zY:∀{rs:M Nat} {S:SS} {s:St},Rel ρ S s->Rel ρ (Bx S rs) (fK s rs)
 |[],_,_,h=>h
 |r::rs,_,_,h=>zY (rs:=rs) (h.dd r)
theorem yk:∀{bs:M Nat} {S:SS} {s:St},Rel ρ S s->Rel ρ (yB S bs) (fG s bs)
 |[],_,_,h=>h
 |b::bs,S,s,h=>by
  refine yk (bs:=bs) (S:={S with bx:=ti S.bx b }) (s:={s with bx:=ti s.bx b }) ⟨h.sl,λe c a=>?_,h.rw⟩;simp only[eK]at a ⊢
  split at a
  ·cases a
  ·rename_i d;rw[if_neg d];exact h.bx e c a
end
end
section
def JU:Nat->M JK->Bool×M SE
 |_,[]=>(I,[])
 |c,.d::l=>match JU (c+1) l with
  |(b,pl)=>(b,.v c::pl)
 |c,.row _ _ deep _ _::l=>match JU (c+1) l with
  |(b,pl)=>(deep && b,pl)
def M0:Nat->M SA->Bool×M SE
 |_,[]=>(I,[])
 |c,a::as=>match JU c a.l with
  |(b,pl)=>match M0 (c+a.n) as with
   |(e,d)=>(b && e,pl++d)
def L1:M SA->Bool
 |[]=>I
 | .val _ l::as=>n8 l.length 30 && L1 as
 | .box _::_=>J
def acW(hint:M Nat)(d:Nat)(a:M Nat)(b:Bool)(pl:M SE):Bs×Bool:=
 if a=[] then ([],J) else if b=J then ([],I) else match pl with
  |[]=>([],J)
  |pl=>if hint.contains (1000 * d+pl.length) then ([(.Ww,pl)],I) else ([(.pl,pl)],J)
def afH:M (SB ⊕ M SB)->SC
 |[.inl x]=>.b x
 |[.inr xs]=>.agg xs
 |ms=>.sh ms
def T4(l:M C):C:=match l with|[c]=>c|l=>.sh l
def Hd(hint:M Nat)(S:SS)(a:M SC)(d:u Nat)(n:Nat)(v:M SA×M SA):u (Bs×SS):=
 if L1 v.1=I then
  match M0 n v.1,M0 (n+zR v.1) v.2 with
  |(e,n_),(c,MB)=>match acW hint (d.getD 0) (C1 a) (e && c) (n_++MB) with
   |(b,shr)=>match (if shr=I then pK S (C1 a) else Z S) with
    |some g=>match zn (yB (Bx g (uQ S a)) (sy a)) a v.2 (n+zR v.1) with
     |some S2=>match acR (d.getD 0) 0 v.1 n S2 with
      |some (ms,f)=>Z (b,f.put d ⟨[],afH ms⟩)
      |none=>O
     |none=>O
    |none=>O
 else O
section
variable {ρ iR:M D} {S S':SS} {s:St}
theorem DJ:∀{l:M JK} {c:Nat} {j:M D} {i:M RV} {b:Bool} {pl:M SE},ot l j=Z i->Loc ρ c j->JU c l=(b,pl)->∃g,iY ρ pl=Z g/\i.all RV.closed=(b && dV g)
 |[],_,[],_,_,_,e,_,f=>by cases e;cases f;exact⟨[],rfl,rfl⟩
 |[],_,_::_,_,_,_,e,_,_=>by cases e
 |_::_,_,[],_,_,_,e,_,_=>by cases e
 |v::l,c,a::j,i,b,pl,e,o,f=>by
  simp only[ot]at e
  split at e
  ·rename_i r h;obtain⟨C,w,rfl⟩:=ak.1 e;have y:nth ρ c=Z a:=o 0 a rfl;cases v with
   |d=>
    cases h;simp only[JU]at f;generalize n:JU (c+1) l=q at f;obtain⟨x,m⟩:=q;cases f;obtain⟨g,t,p⟩:=DJ w o.tail n;refine⟨a::g,by simp only[iY,SE.d,y,t,aQ],?_⟩;rw[cX,p,pf];simp only[RV.closed];cases D.plain a<;>cases x<;>simp
   |row k F deep app fz=>
    simp only[JU]at f;generalize n:JU (c+1) l=q at f;obtain⟨x,m⟩:=q;cases f;obtain⟨g,t,p⟩:=DJ w o.tail n;refine⟨g,t,?_⟩;cases a with
    |list B A es=>
     simp only[EK]at h
     split at h
     ·cases h;rw[cX,p];simp only[RV.closed,iy]
     ·cases h
    |_=>cases h
  ·cases e
theorem JT:∀{l:M SA} {c:Nat} {h:M D} {i:M A} {b:Bool} {pl:M SE},iC l h=Z i->Loc ρ c h->M0 c l=(b,pl)->∃d,iY ρ pl=Z d/\i.all A.closed=(b && dV d)
 |[],_,[],_,_,_,f,_,e=>by cases f;cases e;exact⟨[],rfl,rfl⟩
 |[],_,_::_,_,_,_,f,_,_=>by cases f
 |a::as,c,h,i,b,pl,f,m,e=>by
  obtain⟨r,H,g,w,rfl⟩:=ja f;simp only[M0]at e;generalize p:JU c a.l=q at e;obtain⟨t,n_⟩:=q;simp only at e
  generalize k:M0 (c+a.n) as=q at e;obtain⟨F,MB⟩:=q;cases e;obtain⟨j,y,x⟩:=JT w (m.drop _) k;have:∃d,iY ρ n_=Z d/\A.closed r=(t && dV d):=by
   cases a with
   |val G l=>
    simp only[nM]at g;obtain⟨v,o,rfl⟩:=ak.1 g;obtain⟨d,q1,q2⟩:=DJ o (m.take _) p;exact⟨d,q1,q2⟩
   |box l=>
    simp only[nM]at g;obtain⟨v,o,rfl⟩:=ak.1 g;obtain⟨d,q1,q2⟩:=DJ o (m.take _) p;exact⟨d,q1,q2⟩
  obtain⟨d,C,B⟩:=this;refine⟨d++j,rU C y,?_⟩;rw[cX,B,x,za];cases t<;>cases F<;>simp
theorem Jy:∀{l:M SA} {d:M D} {e:M A},iC l d=Z e->L1 l=I->e.all A.short=I
 |[],[],_,b,_=>by cases b;rfl
 |[],_::_,_,b,_=>by cases b
 | .box _::_,_,_,_,h=>by cases h
 | .val m l::as,d,e,b,h=>by
  obtain⟨r,o,f,i,rfl⟩:=ja b;simp only[L1,ai]at h;simp only[nM]at f;obtain⟨g,a,rfl⟩:=ak.1 f;have k:g.length=l.length:=by
   clear h f b i;generalize d.take (SA.val m l).n=c at a
   induction l generalizing c g with
   |nil=>cases c<;>cases a;rfl
   |cons v l j=>
    cases c with
    |nil=>cases a
    |cons x c=>
     simp only[ot]at a
     split at a
     ·obtain⟨ys,q1,rfl⟩:=ak.1 a;simp[j _ _ q1]
     ·cases a
  rw[cX,Jy i h.2,fZ];simp only[A.short,k,h.1]
theorem acX{hint:M Nat}{d:Nat}{n:M Nat}{b e:Bool}{pl:M SE}{p:Bs}{j r:M D}(a:acW hint d n b pl=(p,e))(o:kY ρ p=Z (ρ++r))(l:iY ρ pl=Z j)(h:Rel ρ S s){q:SS}(i:(if e=I then pK S n else Z S)=Z q) :
  Rel ρ q (if (b && dV j)=I then s else eY s n):=by
 unfold acW at a
 split at a
 ·rename_i v;subst v;cases a;cases i;split
  ·exact h
  ·exact h
 ·split at a
  ·rename_i m;cases a;subst m;simp only[cP,aF,if_false];exact qC h i
  ·rename_i k;have k:b=I:=by simpa using k
   subst k
   split at a
   ·cases a;cases l;cases i;exact h
   ·split at a
    ·cases a;obtain⟨t,x,g,c,w⟩:=eM o;rw[l]at g;cases g;simp only[aZ]at c
     split at c
     ·cases c
     ·rename_i f;have f:dV j=J:=by simpa using f
      rw[f];simp only[kH,aF,if_false];exact qC h i
    ·cases a;obtain⟨t,x,g,c,w⟩:=eM o;rw[l]at g;cases g;simp only[aZ]at c
     split at c
     ·rename_i f;rw[f];cases i;exact h
     ·cases c
theorem acD{b:M (SB ⊕ M SB)}{f:M C}(h:vK ρ b f):lK ρ (afH b) (T4 f):=by
 unfold afH;split
 ·obtain⟨c,g,rfl,d,a⟩:=h;simp only[vK]at a;subst a;exact d
 ·obtain⟨i,g,rfl,d,a⟩:=h;simp only[vK]at a;subst a;exact⟨i,rfl,d⟩
 ·rename_i n1 n2;have:T4 f=.sh f:=by
   unfold T4;split
   ·rename_i c;cases b with
    |nil=>simp only[vK]at h;cases h
    |cons m b=>
     cases m with
     |inl x=>
      obtain⟨c,g,e,d,a⟩:=h;cases e;cases b with
      |nil=>exact absurd rfl (n1 x)
      |cons m b=>cases m<;>(obtain⟨_,_,e,_⟩:=a;cases e)
     |inr x=>
      obtain⟨c,g,e,d,a⟩:=h;cases e;cases b with
      |nil=>exact absurd rfl (n2 x)
      |cons m b=>cases m<;>(obtain⟨_,_,e,_⟩:=a;cases e)
   ·rfl
  rw[this];exact⟨f,rfl,h⟩
theorem Ro{cf:Cf}{mf:Mf}{V:M (Nat×ny)}{G:Gf}(hG:Gok cf V G)(h:Rel ρ S s){W:Gs}(hk:jq ρ W=Z I){hint:M Nat}{n:Nat}(hn:n=ρ.length){d:u Nat}{f:Nat}{P:M KX}{b:M SC}{es:M SE}{i:Nat}{g:ny}
  (hx:JC S W P=Z b) (ha:O0 S b=Z (g.args,es)) (hi:look V i=Z g) (hf:g.f=f) (hd:(kG (uQ S b) && kG (sy b) && (uQ S b).all (λr=>!(C1 b).contains r))=I)
  {o e:M D} {j:Nat} (hw:iY ρ es=Z o) (hg:G i o=Z (j,e)) {v:M SA×M SA} (hv:nth g.res j=Z v) {bs:Bs} (a:Hd hint S b d n v=Z (bs,S')) (X:kY (ρ++e) bs=Z iR) :
  ∃U,lP cf mf s d (.call f P)=Z U/\Rel iR S' U:=by
 obtain⟨ws',as,q1,q2,q3,q4,q5,q6,q7⟩:=O2 h (Cz h hk hx) ha;rw[hw]at q1;cases q1;obtain⟨Sd,r,v',T,R,m,Q⟩:=hG i g hi o j e hg;rw[q3]at T;cases T;rw[hv]at R;cases R;rw[hf]at Q;obtain⟨rs,outs⟩:=r;unfold Ad at m
 split at m
 ·rename_i HY t K Y;cases m;unfold Hd at a
  split at a
  ·rename_i w;generalize lS:M0 n v.1=p1 at a;generalize pR:M0 (n+zR v.1) v.2=p2 at a;obtain⟨N,n_⟩:=p1;obtain⟨L,MB⟩:=p2;simp only at a
   generalize x:acW hint (d.getD 0) (C1 b) (N && L) (n_++MB)=p3 at a;obtain⟨bs',shr⟩:=p3;simp only at a
   split at a
   ·rename_i S0 C
    split at a
    ·rename_i S2 B
     split at a
     ·rename_i ms S3 y;cases a;have c:Loc (ρ++e) n e:=by rw[hn];exact Loc.new e
      obtain⟨q,t1,t2⟩:=JT K (c.take _) lS;obtain⟨p,t3,t4⟩:=JT Y (c.drop _) pR;obtain⟨τ,YJ⟩:=ri X;subst YJ;have k:=acX x X (rU t1 t3) (h.mono e) C;have pS:(N && L && dV (q++p))=(rs.all A.closed && outs.all A.closed):=by
       rw[t2,t4,za];cases N<;>cases L<;>simp
      rw[pS]at k;have H:=yk (bs:=sy b) (zY (rs:=uQ S b) k);have F:=CC H q7 Y (c.drop _) B;obtain⟨l,s4,u1,u2,u3⟩:=T_ F K (c.take _) y;refine⟨s4.put d (T4 l),?_,(u2.put d (su.nil (acD u3))).mono τ⟩;simp only[lP,yE,q2,q4,q5,q6,hd,Q,if_true,Jy K w,u1];rfl
     ·cases a
    ·cases a
   ·cases a
  ·cases a
 ·cases m
end
end
section
abbrev SX:=u (u Nat)
def UN:SX->Ex
 |none=>.norm
 |some O=>.ret
 |some (Z i)=>.exit i
structure SO where
 x:SX
 S:SS
 m:Nat
 deriving DecidableEq
def HF(o:SO):M SO->Nat×M SO
 |[]=>(0,[o])
 |p::a=>if o=p then (0,p::a) else match HF o a with
  |(j,b)=>(j+1,p::b)
def pO:M SO->M SO->M Nat×M SO
 |[],acc=>([],acc)
 |o::os,acc=>match HF o acc with
  |(j,b)=>match pO os b with
   |(c,a)=>(j::c,a)
def Om(f:M Nat)(t:ST):ST:=if f=cB f.length then t else .map f t
def F6(x:SX)(a:Gs)(S:SS):ST×M SO:=match Uz a S with
 |(b,es)=>(.leaf 0 es,[⟨x,b,es.length⟩])
def abj(k:(M SA×M SA)->u (ST×M SO)):M (M SA×M SA)->M SO->u (ST×M SO)
 |[],acc=>Z (.nil,acc)
 |v::a,acc=>match k v with
  |some (t,os)=>match pO os acc with
   |(f,d)=>match abj k a d with
    |some (b,c)=>Z (.cons (Om f t) b,c)
    |none=>O
  |none=>O
def GK(a:Gs):Bs->ST->ST
 |[],t=>t
 |(o,es)::b,t=>.op a o es (GK a b t)
def Pj:SG:=⟨[(.k (.bool J),I)],.any⟩
def Fits(G:Gf)(t:ST)(outs:M SO)(c:M D)(run:u (Ex×St)):Prop:=
 ∀j a,eV G t 0 c=Z (j,a)->∃o b,nth outs j=Z o/\run=Z (UN o.x,b)/\a.length=o.m/\Rel a o.S b
theorem DG(o:SO):∀{l b:M SO} {j:Nat},HF o l=(j,b)->nth b j=Z o/\∀i x,nth l i=Z x->nth b i=Z x
 |[],b,j,h=>by cases h;exact⟨rfl,λi x a=>by cases a⟩
 |p::c,b,j,h=>by
  simp only[HF]at h
  split at h
  ·rename_i e;cases h;subst e;exact⟨rfl,λ_ _ a=>a⟩
  ·generalize d:HF o c=q at h;obtain⟨m,k⟩:=q;cases h;obtain⟨g,f⟩:=DG o d;refine⟨g,λi x a=>?_⟩;cases i with
   |zero=>exact a
   |succ i=>exact f i x a
theorem qF:∀{os a b:M SO} {c:M Nat},pO os a=(c,b)->(∀i o,nth os i=Z o->∃j,nth c i=Z j/\nth b j=Z o)/\∀i x,nth a i=Z x->nth b i=Z x
 |[],a,b,c,h=>by cases h;exact⟨λi o m=>(by cases m),λ_ _ d=>d⟩
 |o::os,a,b,c,h=>by
  simp only[pO]at h;generalize l:HF o a=q at h;obtain⟨j,t⟩:=q;simp only at h
  generalize e:pO os t=q at h;obtain⟨k,v⟩:=q;cases h;obtain⟨s,r⟩:=DG o l;obtain⟨n,g⟩:=qF e;refine⟨λi p f=>?_,λi x d=>g i x (r i x d)⟩;cases i with
  |zero=>
   cases f;exact⟨j,rfl,g j _ s⟩
  |succ i=>exact n i p f
theorem VL:∀{n i:Nat},i < n->nth (cB n) i=Z i:=by
 intro n i h;rw[ef];simp[h]
theorem Cm{a:Type}:∀{l:M a} {i:Nat} {x:a},nth l i=Z x->i < l.length
 |_::_,0,_,_=>by simp
 |_::l,i+1,x,h=>by simpa using Cm (l:=l) h
 |[],_,_,h=>by simp[nth]at h
section
variable {G:Gf} {ρ:M D} {run:u (Ex×St)}
theorem Fits.map{t:ST}{outs outs':M SO}{f:M Nat}(h:Fits G t outs ρ run)(g:∀i o,nth outs i=Z o->∃j,nth f i=Z j/\nth outs' j=Z o):Fits G (Om f t) outs' ρ run:=by
 intro j k hd;unfold Om at hd
 split at hd
 ·rename_i m;obtain⟨o,c,d,a,q,p⟩:=h j k hd;obtain⟨l,q1,q2⟩:=g j o d;have n:=Cm q1;rw[m,VL n]at q1;cases q1;exact⟨o,c,q2,a,q,p⟩
 ·simp only[eV]at hd
  split at hd
  ·rename_i e b r;obtain⟨y,d,a⟩:=ak.1 hd;simp only[aI]at a;obtain⟨rfl,rfl⟩:=a;obtain⟨o,c,x,w,v,s⟩:=h e b r;obtain⟨l,q1,q2⟩:=g e o x;rw[d]at q1;cases q1;exact⟨o,c,q2,w,v,s⟩
  ·cases hd
theorem Fits.more{t:ST}{outs a:M SO}(h:Fits G t outs ρ run)(d:∀i o,nth outs i=Z o->nth a i=Z o):Fits G t a ρ run:=λj b hd=>by
 obtain⟨o,c,f,e⟩:=h j b hd;exact⟨o,c,d j o f,e⟩
theorem wK{x:SX}{a:Gs}{S:SS}{s:St}{t:ST}{outs:M SO}(h:Rel ρ S s)(e:jq ρ a=Z I)(b:F6 x a S=(t,outs)):Fits G t outs ρ (Z (UN x,s)):=by
 intro j f hd;unfold F6 at b;generalize d:Uz a S=q at b;obtain⟨i,es⟩:=q;cases b;simp only[eV]at hd
 split at hd
 ·rename_i g c;cases hd;exact⟨_,s,rfl,rfl,ly c,Sj h e d c⟩
 ·cases hd
theorem Ed{gs:Gs}:∀{d:Bs} {t:ST} {ρ:M D} {r:Nat×M D} {b:Bool},jq ρ gs=Z b->eV G (GK gs d t) 0 ρ=Z r->∃a,a.length=d.length/\eV G t 0 (ρ++a)=Z r/\(b=I->kY ρ d=Z (ρ++a))
 |[],t,ρ,r,b,c,h=>⟨[],rfl,by rw[aK];exact h,λ_=>by simp[kY]⟩
 |(o,es)::d,t,ρ,r,b,c,h=>by
  simp only[GK,eV,c]at h;cases b with
  |true=>
   simp only at h
   split at h
   ·rename_i k i
    split at h
    ·rename_i x j;obtain⟨a,f,e,g⟩:=Ed (lQ [x] c) h;refine⟨x::a,by simp[f],by simpa using e,λ_=>?_⟩;simp only[kY,i,j]
     simpa using g rfl
    ·cases h
   ·cases h
  |false=>
   simp only at h
   obtain⟨a,f,e,g⟩:=Ed (lQ [.bool J] c) h;exact⟨.bool J::a,by simp[f],by simpa using e,λh=>by cases h⟩
theorem J9{n:Cf}{m:Mf}{S:SS}{s:St}(h:Rel ρ S s){d:u Nat}{op:KO}{g:Nat}{w:Bool}{o:Gs}{e:SE}(y:look S.sl g=Z ⟨o,.b (.d e)⟩){b:Bool}(f:jq ρ (o++[(e,w)])=Z b) :
  vB n m s ⟨d,op,Z (g,w)⟩=if b=I then Dp n m s d op else Z (s.put d .vz):=by
 obtain⟨F,C,B,A⟩:=h.sl g _ y;have app:∀{j:Gs} {c:Bool},jq ρ j=Z c->jq ρ (j++[(e,w)])=if c=I then jq ρ [(e,w)] else Z J:=by
  intro j
  induction j with
  |nil=>intro c i;cases i;rfl
  |cons p j q=>
   intro c i;obtain⟨a,v⟩:=p;simp only[jq,au]at i ⊢
   split at i
   ·split at i
    ·rename_i l;rw[if_pos l];exact q i
    ·rename_i l;rw[if_neg l];cases i;rfl
   ·cases i
 rw[app C]at f;cases F with
 |false=>
  simp only[aF,if_false]at f;cases f;simp only[vB,A rfl,aF,if_false]
 |true=>
  simp only[if_true]at f;obtain⟨x,q1,q2⟩:=B rfl;simp only[jq,q1]at f
  split at f
  ·rename_i t r;cases r;simp only[vB,q2]
   split at f
   ·rename_i k;cases f;rw[if_pos k,if_pos rfl]
   ·rename_i k;cases f;rw[if_neg k,if_neg (by simp)]
  ·cases f
theorem R0{c:C}(h:c=.vz):su ρ Pj c:=⟨J,rfl,λh=>(by cases h),λ_=>h⟩
theorem yK{gs b:Gs}(h:jq ρ gs=Z I)(c:jq ρ b=Z I):jq ρ (gs++b)=Z I:=IS λp a=>by
 rcases ba.1 a with a|a
 ·exact oB h p a
 ·exact oB c p a
theorem E6:∀{a:Gs},jq ρ a=Z J->∃p∈a,p.1.d ρ=Z (.bool (!p.2))
 |[],h=>by cases h
 |(g,w)::a,h=>by
  simp only[jq]at h
  split at h
  ·rename_i b c
   split at h
   ·obtain⟨p,f,e⟩:=E6 h;exact⟨p,bP _ f,e⟩
   ·rename_i i;refine⟨(g,w),bQ,?_⟩;rw[c];cases b<;>cases w<;>simp_all
  ·cases h
end
end
section
def SF(f:Nat)(as:M SA):M (Nat×ny)->u Nat
 |[]=>O
 |(i,a)::l=>if a.f=f/\a.args=as then Z i else SF f as l
def He(hint:M Nat)(g:M (Nat×ny))(S:SS)(h:Gs)(n:Nat)(d:u Nat)(op:KO)(k:SS->Nat->u (ST×M SO)):u (ST×M SO):=
 match op with
 | .call f xs=>match JC S h xs with
  |some a=>match O0 S a with
   |some (as,es)=>match SF f as g with
    |some i=>match look g i with
     |some c=>if c.f=f/\c.args=as/\(kG (uQ S a) && kG (sy a) && (uQ S a).all (λr=>!(C1 a).contains r))=I then
       (match abj (λv=>match Hd hint S a d n v with
        |some (b,e)=>match k e (n+(zR v.1+zR v.2)+b.length) with
         |some (t,outs)=>Z (GK [] b t,outs)
         |none=>O
        |none=>O) c.res []with
       |some (j,outs)=>Z (.call i es j,outs)
       |none=>O) else O
     |none=>O
    |none=>O
   |none=>O
  |none=>O
 |op=>match qn hint S h n d op with
  |some (b,e)=>match k e (n+b.length) with
   |some (t,outs)=>Z (GK [] b t,outs)
   |none=>O
  |none=>O
def OY(hint:M Nat)(e:M (Nat×ny))(S:SS)(a:Gs)(n:Nat)(d:u Nat)(op:KO)(k:SS->Nat->u (ST×M SO)):u (ST×M SO):=
 if op.kX=I then (match ac6 S a n op with
  |some (b,c)=>match k (S.put d ⟨[],c⟩) (n+b.length) with
   |some (t,outs)=>Z (GK [] b t,outs)
   |none=>O
  |none=>O) else He hint e S a n d op k
def ad2(S:SS)(a:Gs):Bool:=(S.sl.take 3).any λp=>match look S.sl p.1 with
 |some g=>Z' (g.gs=a)
 |none=>J
def full(S:SS)(b:Gs)(a:Bs):Bs:=match a with
 |[]=>if ad2 S b=I then [] else [(.pl,[])]
 |a=>a
def G9(b c:Gs->u (ST×M SO)):Gs->Gs->u (ST×M SO)
 |[],a=>b a
 |p::d,a=>if p∈a then G9 b c d a else match G9 b c d (p::a),c ((p.1,!p.2)::a) with
  |some (g,i),Z (e,h)=>match pO h i with
   |(f,outs)=>Z (.gd [p] g (Om f e),outs)
  |_,_=>O
def Rq(hint:M Nat)(m:M (Nat×ny))(S:SS)(a:Gs)(n:Nat)(i:KI)(k:SS->Gs->Nat->u (ST×M SO)):u (ST×M SO):=
 match i with
 |⟨d,op,O⟩=>OY hint m S a n d op (λj h=>k j a h)
 |⟨d,op,Z (g,w)⟩=>match look S.sl g with
  |some ⟨f,.b (.d e)⟩=>
   if (f++[(e,w)]).all (λp=>Z' (p∈a))=I then OY hint m S a n d op (λj h=>k j a h)
   else if (f++[(e,w)]).any (λp=>Z' ((p.1,!p.2)∈a))=I then k (S.put d Pj) a n
   else if op.kX=I then (match ac6 S ((f++[(e,w)])++a) n op with
    |some (o,c)=>match k (S.put d ⟨f++[(e,w)],c⟩) a (n+(full S (f++[(e,w)]) o).length) with
     |some (t,outs)=>Z (GK (f++[(e,w)]) (full S (f++[(e,w)]) o) t,outs)
     |none=>O
    |none=>O)
   else G9 (λl=>OY hint m S l n d op (λj h=>k j l h)) (λl=>k (S.put d Pj) l n) (f++[(e,w)]) a
  |some ⟨f,.any⟩=>if f=Pj.gs then k (S.put d Pj) a n else O
  |_=>O
def Hf(hint:M Nat)(b:M (Nat×ny))(c:lE):M KI->SS->Gs->Nat->u (ST×M SO)
 |[],S,a,n=>Z (F6 O a (S.dF c))
 |i::is,S,a,n=>Rq hint b S a n i (λe f d=>Hf hint b c is e f d)
section
variable {ρ:M D} {S:SS} {s:St} {G:Gf} {cf:Cf} {mf:Mf} {lH:M (Nat×ny)} {hint:M Nat} {n:Nat} {d:u Nat} {kn:Gs}
theorem qv:∀{l:M SA} {b:M D} {f:M A},iC l b=Z f->b.length=zR l
 |[],[],_,_=>rfl
 |[],_::_,_,h=>by cases h
 |a::as,b,f,h=>by
  obtain⟨r,o,c,k,rfl⟩:=ja h;have j:=qv k;have i:(b.take a.n).length=a.n:=by
   cases a with
   |val m l=>simp only[nM]at c;obtain⟨g,e,_⟩:=ak.1 c;exact oz e
   |box l=>simp only[nM]at c;obtain⟨g,e,_⟩:=ak.1 c;exact oz e
  rw[dH]at j;rw[aY]at i;simp only[zR];omega
theorem XH{v:M SA×M SA}{a:M D}{r:M A×M A}(h:Ad v a=Z r):a.length=zR v.1+zR v.2:=by
 unfold Ad at h
 split at h
 ·rename_i g outs f e;have c:=qv f;have b:=qv e;rw[aY]at c;rw[dH]at b;omega
 ·cases h
def WL(G:Gf)(t:ST)(j:Nat)(outs:M SO)(ρ:M D)(run:u (Ex×St)):Prop:=
 ∀i a,eV G t j ρ=Z (i,a)->∃o b,nth outs i=Z o/\run=Z (UN o.x,b)/\a.length=o.m/\Rel a o.S b
theorem Sx{k:(M SA×M SA)->u (ST×M SO)}:∀{g:M (M SA×M SA)} {a b:M SO} {c:ST},abj k g a=Z (c,b)->
  (∀i x,nth a i=Z x->nth b i=Z x)/\∀j v,nth g j=Z v->∃t os,k v=Z (t,os)/\∀run ρ,Fits G t os ρ run->WL G c j b ρ run
 |[],a,b,c,h=>by cases h;exact⟨λ_ _ m=>m,λj v C=>(by cases C)⟩
 |v::g,a,b,c,h=>by
  simp only[abj]at h
  split at h
  ·rename_i t os K;generalize F:pO os a=q at h;obtain⟨f,V⟩:=q;simp only at h
   split at h
   ·rename_i A U L;cases h;obtain⟨Q,P⟩:=qF F;obtain⟨y,N⟩:=Sx L;refine⟨λi x m=>y i x (P i x m),λj w r=>?_⟩;cases j with
    |zero=>
     cases r;refine⟨t,os,K,λrun ρ p i e hd=>?_⟩;have:=p.map (f:=f) (outs':=b) (λi o H=>by obtain⟨j,q1,q2⟩:=Q i o H;exact⟨j,q1,y j o q2⟩);exact this i e hd
    |succ j=>
     obtain⟨B,l,T,R⟩:=N j w r;exact⟨B,l,T,λrun ρ p i e hd=>R run ρ p i e hd⟩
   ·cases h
  ·cases h
theorem Co{b:Bs}{t:ST}{outs:M SO}{run:u (Ex×St)}(h:∀a,kY ρ b=Z a->Fits G t outs a run):Fits G (GK [] b t) outs ρ run:=by
 intro j c hd;obtain⟨g,i,f,e⟩:=Ed (gs:=[]) rfl hd;exact h _ (e rfl) j c f
theorem O3(P:Gok cf lH G)(h:Rel ρ S s)(q:jq ρ kn=Z I)(p:n=ρ.length){op:KO}{k:SS->Nat->u (ST×M SO)}{t:ST}{outs:M SO}{run:St->u (Ex×St)}
  (L:∀l b c t outs,Rel b l c->jq b kn=Z I->k l b.length=Z (t,outs)->Fits G t outs b (run c)) (a:He hint lH S kn n d op k=Z (t,outs)) :
  op.kX=J/\Fits G t outs ρ ((lP cf mf s d op).bind run):=by
 unfold He at a
 split at a
 ·rename_i f xs;refine⟨rfl,?_⟩
  split at a
  ·rename_i cs hx
   split at a
   ·rename_i as es ha
    split at a
    ·rename_i i hi
     split at a
     ·rename_i X H
      split at a
      ·rename_i hq;obtain⟨rfl,rfl,hd⟩:=hq
       split at a
       ·rename_i ts g hf;cases a;obtain⟨_,h2⟩:=Sx (G:=G) hf;intro j T m;simp only[eV]at m
        split at m
        ·rename_i U hw
         split at m
         ·rename_i F C K;obtain⟨as,r,v,w1,B,V,w4⟩:=P i X H U F C K;obtain⟨t,os,o,g2⟩:=h2 F v B
          split at o
          ·rename_i Q l hr
           split at o
           ·rename_i W Y w;cases o;refine g2 _ (ρ++C) ?_ j T m;refine Co λb e=>?_;obtain⟨c,y,x⟩:=Ro (cf:=cf) (mf:=mf) P h q p hx ha H rfl hd hw K B hr e;rw[y];obtain⟨R,A⟩:=ri e;refine L l b c _ _ x (by rw[A,bB];exact lQ _ q) ?_;rw[xb e,bh,<- p,XH V];exact w
           ·cases o
          ·cases o
         ·cases m
        ·cases m
       ·cases a
      ·cases a
     ·cases a
    ·cases a
   ·cases a
  ·cases a
 ·split at a
  ·rename_i Q l N
   split at a
   ·rename_i W g w;cases a;have hp:∀b,kY ρ Q=Z b->op.kX=J/\∃c,lP cf mf s d op=Z c/\Rel b l c:=λb e=>Ru h q p N e;refine⟨(by cases op<;>first|rfl|cases N),Co λb e=>?_⟩;obtain⟨_,c,y,x⟩:=hp b e;rw[y];obtain⟨R,A⟩:=ri e;refine L l b c _ _ x (by rw[A];exact lQ _ q) ?_;rw[xb e,<- p];exact w
   ·cases a
  ·cases a
theorem Hb(x:Gok cf lH G)(h:Rel ρ S s)(g:jq ρ kn=Z I)(f:n=ρ.length){op:KO}{k:SS->Nat->u (ST×M SO)}{t:ST}{outs:M SO}{run:St->u (Ex×St)}
  (m:∀p b j t outs,Rel b p j->jq b kn=Z I->k p b.length=Z (t,outs)->Fits G t outs b (run j)) (a:OY hint lH S kn n d op k=Z (t,outs)) :
  Fits G t outs ρ ((Dp cf mf s d op).bind run):=by
 unfold OY at a
 split at a
 ·rename_i l
  split at a
  ·rename_i H c w
   split at a
   ·rename_i F e r;cases a;refine Co λb i=>?_;obtain⟨v,C,B⟩:=Hg h g f w i;obtain⟨q,o⟩:=ri i;simp only[Dp,l,if_true,C,aQ,dW];refine m _ b _ _ _ ((o▸h.mono q:Rel b S s).put d (su.nil B)) (by rw[o];exact lQ _ g) ?_;rw[xb i,<- f];exact r
   ·cases a
  ·cases a
 ·rename_i l;obtain⟨A,y⟩:=O3 (mf:=mf) x h g f m a;simp only[Dp,A,aF,if_false];exact y
theorem Yf{i:Gs}{e:Bs}{c:M D}(h:kY ρ (full S i e)=Z c):∃a,c=ρ++a/\∃g j,kY ρ e=Z g/\c=g++j:=by
 obtain⟨a,f⟩:=ri h;refine⟨a,f,?_⟩;cases e with
 |nil=>exact⟨ρ,a,rfl,f⟩
 |cons b e=>exact⟨c,[],h,by simp⟩
theorem Z1(h:Rel ρ S s){c:Gs}(e:ad2 S c=I):∃b,jq ρ c=Z b:=by
 obtain⟨p,_,a⟩:=kI.1 e
 split at a
 ·rename_i g f;obtain⟨b,i,_⟩:=h.sl _ g f;exact⟨b,(of_decide_eq_true a)▸i⟩
 ·cases a
theorem SL{a:Gs}{e c:ST}{outs:M SO}{run:u (Ex×St)}(g:jq ρ a=Z I->Fits G e outs ρ run)(f:jq ρ a=Z J->Fits G c outs ρ run):Fits G (.gd a e c) outs ρ run:=by
 intro j b hd;simp only[eV]at hd
 split at hd
 ·rename_i h;exact g h j b hd
 ·rename_i h;exact f h j b hd
 ·cases hd
theorem Ym:∀{a:Gs} {p:SE×Bool} {c:Gs},jq ρ a=Z I->p.1.d ρ=Z (.bool (!p.2))->jq ρ (a++p::c)=Z J
 |[],p,c,_,b=>by
  obtain⟨e,w⟩:=p;simp only[av,jq]at b ⊢;rw[b];cases w<;>rfl
 |(g,v)::a,p,c,h,b=>by
  have f:=oB h (g,v) (by simp);simp only[au,jq]at f h ⊢;rw[f]at h ⊢;simp only[if_true]at h ⊢;exact Ym h b
theorem Cy{v w:Gs->u (ST×M SO)}{run:u (Ex×St)}{full_:Gs}(l:∀h {t:ST} {o:M SO},jq ρ h=Z I->jq ρ full_=Z I->v h=Z (t,o)->Fits G t o ρ run)
  (m:∀h {t:ST} {o:M SO},jq ρ h=Z I->jq ρ full_=Z J->w h=Z (t,o)->Fits G t o ρ run):∀{gs pre kn:Gs} {t:ST} {outs:M SO},full_=pre++gs->jq ρ pre=Z I->jq ρ kn=Z I->G9 v w gs kn=Z (t,outs)->Fits G t outs ρ run
 |[],pre,kn,t,outs,j,e,c,a=>l kn c (by rw[j,aK];exact e) a
 |p::A,pre,kn,t,outs,j,e,c,a=>by
  have g:full_=(pre++[p])++A:=by rw[j];simp
  simp only[G9]at a
  split at a
  ·rename_i F;exact Cy l m g (yK e (IS λq b=>by simp only[cT]at b;subst b;exact oB c _ F)) c a
  ·split at a
   ·rename_i L C K B H hB;generalize b:pO B C=q at a;obtain⟨f,k⟩:=q;cases a;obtain⟨q1,q2⟩:=qF b;refine SL (λi=>?_) λi=>?_
    ·exact (Cy l m g (yK e i) (yK (gs:=[p]) i c) H).more q2
    ·obtain⟨r,x,y⟩:=E6 i;simp only[cT]at x;subst x;exact Fits.map (m _ (yK (gs:=[(r.1,!r.2)]) (IS λq b=>by simp only[cT]at b;subst b;exact y) c) (by rw[j];exact Ym e y) hB) q1
   ·cases a
theorem GL{a:Gs}{o:PO}{es:M SE}{c:Bs}{t:ST}{r:Nat×M D}(h:eV G (GK a ((o,es)::c) t) 0 ρ=Z r):∃b,jq ρ a=Z b:=by
 simp only[GK,eV]at h
 split at h
 ·exact⟨_,‹_›⟩
 ·exact⟨_,‹_›⟩
 ·cases h
theorem aeC(e:Rel ρ S s){a:Gs}{c:Bs}{t:ST}{r:Nat×M D}(h:eV G (GK a (full S a c) t) 0 ρ=Z r):∃b,jq ρ a=Z b:=by
 cases c with
 |nil=>
  simp only[full]at h
  split at h
  ·exact Z1 e ‹_›
  ·exact GL h
 |cons b c=>exact GL h
theorem aex{g:Nat}{w:Bool}{op:KO}(h:Rel ρ S s)(k:jq ρ kn=Z I){f:Gs}{e:SE}(j:look S.sl g=Z ⟨f,.b (.d e)⟩)(l:(f++[(e,w)]).any (λp=>Z' ((p.1,!p.2)∈kn))=I) :
  vB cf mf s ⟨d,op,Z (g,w)⟩=Z (s.put d .vz):=by
 obtain⟨r,q,o,m⟩:=h.sl g _ j;cases r with
 |false=>simp only[vB,m rfl]
 |true=>
  obtain⟨p,a,i⟩:=kI.1 l;have c:=oB k _ (of_decide_eq_true i);rcases ba.1 a with a|a
  ·have:=oB q p a;simp only at c
   rw[c]at this;exact absurd this (by cases p.2<;>simp)
  ·simp only[cT]at a;subst a;obtain⟨x,q1,q2⟩:=o rfl;simp only at c
   rw[c]at q1;cases q1;simp only[vB,q2];rw[if_neg (by cases w<;>simp)]
theorem Ej(F:Gok cf lH G)(h:Rel ρ S s)(l:jq ρ kn=Z I){i:KI}{k:SS->Gs->Nat->u (ST×M SO)}{t:ST}{outs:M SO}{run:St->u (Ex×St)}
  (cont:∀{x:Gs} (P:SS) (q:M D) (L:St) (t:ST) (outs:M SO),Rel q P L->jq q x=Z I->k P x q.length=Z (t,outs)->Fits G t outs q (run L))
  (a:Rq hint lH S kn ρ.length i k=Z (t,outs)):Fits G t outs ρ ((vB cf mf s i).bind run):=by
 obtain⟨d,op,gd⟩:=i;cases gd with
 |none=>
  simp only[Rq]at a;exact Hb F h l rfl (run:=run) cont a
 |some gw=>
  obtain⟨g,w⟩:=gw;simp only[Rq]at a
  split at a
  ·rename_i y e o
   split at a
   ·rename_i Q;have f:jq ρ (y++[(e,w)])=Z I:=Qv l Q;rw[J9 h o f,if_pos rfl];exact Hb F h l rfl (run:=run) cont a
   ·split at a
    ·rename_i U;rw[aex h l o U,dW];exact cont _ _ _ _ _ (h.put d (R0 rfl)) l a
    ·split at a
     ·rename_i R
      split at a
      ·rename_i bs c V
       split at a
       ·rename_i t' A C;cases a;intro j K hd;obtain⟨b,f⟩:=aeC h hd;obtain⟨m,r,N,H⟩:=Ed f hd;rw[J9 h o f];have p:ρ.length+(full S (y++[(e,w)]) bs).length=(ρ++m).length:=by rw[bh,r]
        rw[p]at C;cases b with
        |true=>
         obtain⟨_,_,WB,We,Y,X⟩:=Yf (H rfl);obtain⟨v,e1,e2⟩:=Hg h (yK f l) rfl V Y;simp only[Dp,R,if_true,e1,aQ,dW];refine cont _ _ _ _ _ ((h.mono m).put d ?_) (lQ m l) C j K N;exact⟨I,lQ m f,λ_=>X▸e2.mono We,λh=>(by cases h)⟩
        |false=>
         rw[if_neg (by simp),dW];refine cont _ _ _ _ _ ((h.mono m).put d ?_) (lQ m l) C j K N;exact⟨J,lQ m f,λh=>(by cases h),λ_=>rfl⟩
       ·cases a
      ·cases a
     ·refine Cy (full_:=y++[(e,w)]) (λx _ _ B f W=>?_) (λx _ _ B f hB=>?_) (pre:=[]) rfl rfl l a
      ·rw[J9 h o f,if_pos rfl];exact Hb F h B rfl (run:=run) cont W
      ·rw[J9 h o f,if_neg (by simp),dW];exact cont _ _ _ _ _ (h.put d (R0 rfl)) B hB
  ·rename_i y o
   split at a
   ·rename_i f;obtain⟨b,r,_,H⟩:=h.sl g _ o;rw[f]at r;cases r;have T:vB cf mf s ⟨d,op,Z (g,w)⟩=Z (s.put d .vz):=by simp only[vB,H rfl]
    rw[T,dW];exact cont _ _ _ _ _ (h.put d (R0 rfl)) l a
   ·cases a
  ·cases a
theorem JB(j:Gok cf lH G){a:lE}:∀{b:M KI} {S:SS} {kn:Gs} {ρ:M D} {s:St} {t:ST} {outs:M SO},Rel ρ S s->jq ρ kn=Z I->Hf hint lH a b S kn ρ.length=Z (t,outs)->
  Fits G t outs ρ (nrm a (nO cf mf b s))
 |[],S,kn,ρ,s,t,outs,h,f,c=>by
  simp only[Hf,ae]at c;exact wK (h.dF a) f c
 |i::b,S,kn,ρ,s,t,outs,h,f,c=>by
  have g:nrm a (nO cf mf (i::b) s)=(vB cf mf s i).bind λe=>nrm a (nO cf mf b e):=by
   simp only[nO];cases vB cf mf s i<;>rfl
  rw[g];simp only[Hf]at c;exact Ej j h f (run:=λe=>nrm a (nO cf mf b e)) (λp o e t outs m l k=>JB j m l k) c
end
end
section
def KO.VO:KO->M KX
 | .st _ x y=>[x,y]
 | .vn _ _ xs=>xs
 | .app _ _ _ x y=>[x,y]
 | .call _ xs=>xs
 | .mrk _ x _=>[x]
 | .cut _ x _ _=>[x]
 | .Iy _ x _=>[x]
 | .jn x _=>[x]
 | .yv _ x _ a=>[x,a]
 |_=>[]
def tF(s:St):C->M Nat
 | .ptr b _=>b::rowsOf ((look s.bx b).getD [])
 | .pQ r _ _ _=>[r]
 |c=>rowsOf c.cells
theorem xx(s:St)(c:C):∀q∈rowsOf c.cells,q∈tF s c:=by
 intro q h;cases c<;>first|exact h|(simp[C.cells,rowsOf]at h)
theorem uB(s:St)(c:C):∀q∈rowsOf [c],q∈tF s c:=by
 intro q h;cases c<;>first|exact h|(simp[rowsOf]at h)
theorem Ax(s:St)(f:C->M Nat)(b:∀c,∀q∈f c,q∈tF s c)(g:M C->M Nat)(e:g []=[])(d:∀c i,g (c::i)=f c++g i):∀(a:M KX),∀q∈g (a.map (fW s)),∃x∈a,q∈tF s (fW s x)
 |[],q,h=>by simp[e]at h
 |x::a,q,h=>by
  rw[aW,d]at h;rcases ba.1 h with h|h
  ·exact⟨x,by simp,b _ q h⟩
  ·obtain⟨y,j,k⟩:=Ax s f b g e d a q h;exact⟨y,by simp[j],k⟩
theorem Wb(s:St)(d:u Nat)(op:KO):∀q∈eP s d op,q∈d.toList\/∃x∈op.VO,q∈tF s (fW s x):=by
 intro q h;cases op with
 |st n x y=>
  simp only[eP]at h
  split at h
  ·rename_i b o g;simp only[cT]at h;exact .inr ⟨x,by simp[KO.VO],by rw[g];simp[tF,h]⟩
  ·rename_i r k i o g;rcases aL.1 h with h|h
   ·exact .inr ⟨x,by simp[KO.VO],by rw[g];simp[tF,h]⟩
   ·exact .inr ⟨y,by simp[KO.VO],xx s _ q h⟩
  ·cases h
 |vn k j e=>
  simp only[eP]at h;rcases ba.1 h with h|h
  ·exact .inl h
  ·exact .inr (Ax s (λc=>rowsOf c.cells) (xx s) AW rfl (λ_ _=>rfl) e q h)
 |yv ins x i a=>
  simp only[eP]at h;rcases ba.1 h with h|h
  ·rcases ba.1 h with h|h
   ·exact .inl h
   ·exact .inr ⟨x,by simp[KO.VO],uB s _ q h⟩
  ·exact .inr ⟨a,by simp[KO.VO],uB s _ q h⟩
 |app k m j x y=>
  simp only[eP]at h;rcases ba.1 h with h|h
  ·rcases ba.1 h with h|h
   ·exact .inl h
   ·exact .inr ⟨x,by simp[KO.VO],uB s _ q h⟩
  ·exact .inr ⟨y,by simp[KO.VO],uB s _ q h⟩
 |call f e=>
  simp only[eP,DH]at h;rcases ba.1 h with h|h
  ·rcases ba.1 h with h|h
   ·refine .inr (Ax s (λc=>match c with | .ptr b _=>[b]|_=>[]) (λc q h=>?_) db rfl (λc l=>by cases c<;>rfl) e q h)
    split at h
    ·simp only[cT]at h;simp[tF,h]
    ·cases h
   ·refine .inr (Ax s (tO s) (λc q h=>?_) (dN s) rfl (λc l=>rfl) e q h);unfold tO at h
    split at h
    ·simp only[tF,aL];exact .inr h
    ·cases h
  ·exact .inr (Ax s (λc=>rowsOf c.cells) (xx s) jG rfl (λ_ _=>rfl) e q h)
 |mrk f x y=>simp only[eP]at h;exact .inr ⟨x,by simp[KO.VO],xx s _ q h⟩
 |cut k x p t=>
  simp only[eP]at h;rcases ba.1 h with h|h
  ·exact .inl h
  ·exact .inr ⟨x,by simp[KO.VO],uB s _ q h⟩
 |Iy k x y=>
  simp only[eP]at h;rcases ba.1 h with h|h
  ·exact .inl h
  ·exact .inr ⟨x,by simp[KO.VO],uB s _ q h⟩
 |jn x y=>
  simp only[eP]at h;rcases ba.1 h with h|h
  ·exact .inl h
  ·exact .inr ⟨x,by simp[KO.VO],uB s _ q h⟩
 |_=>exact .inl h
def U8(S:SS):SC->u (M Nat)
 | .b x=>if x.cell=I then Z (gD [x]) else O
 | .agg a=>if a.all SB.cell=I then Z (gD a) else O
 | .ptr b _=>match look S.bx b with
  |some a=>if a.all SB.cell=I then Z (b::gD a) else O
  |none=>O
 | .pQ r _ _ _=>Z [r]
 | .vj _ _=>Z []
 | .sh _=>Z []
 | .any=>O
def abD(S:SS):KX->u (M Nat)
 | .s d=>match look S.sl d with
  |some g=>if g.gs=Pj.gs then Z [] else U8 S g.c
  |none=>O
 |x=>match fS S [] x with
  |some c=>U8 S c
  |none=>O
def F5(S:SS)(a:Gs):KO->u (u Nat)
 | .ld _ x=>match fS S a x with
  |some (.ptr b _)=>Z (Z b)
  |some (.vj _ _)=>Z O
  |_=>O
 | .P0 _=>O
 |_=>Z O
def QQ(S:SS)(c:Gs)(i:KI):u (u Nat):=
 match i.gd with
 |none=>F5 S c i.op
 |some (g,w)=>match look S.sl g with
  |some ⟨a,.b (.d e)⟩=>if (a++[(e,w)]).any (λp=>Z' ((p.1,!p.2)∈c))=I then Z O else F5 S ((a++[(e,w)])++c) i.op
  |some ⟨a,.any⟩=>if a=Pj.gs then Z O else O
  |_=>O
def acm(S:SS)(a:M (M Nat×Nat))(i:KI):Bool:=
 a.all (λp=>!(i.dst ==Z p.2)) && i.op.VO.all λx=>match abD S x with
  |some l=>a.all λp=>!l.contains p.2
  |none=>a.isEmpty
def SB.zw:SB->Bool
 | .any=>J
 |_=>I
def UE:M (SB ⊕ M SB)->Bool
 |[]=>I
 | .inl x::xs=>x.zw && UE xs
 | .inr l::xs=>l.all SB.zw && UE xs
def SC.zw:SC->Bool
 | .b x=>x.zw
 | .agg xs=>xs.all SB.zw
 | .sh xs=>UE xs
 | .any=>J
 |_=>I
def aep(a:lE)(S:SS):Bool:=
 a.s.all (λd=>match look S.sl d with
  |some g=>g.c.zw ||decide (g.gs=Pj.gs)
  |none=>J) && a.b.all (λb=>match look S.bx b with
  |some e=>e.all SB.zw
  |none=>J) && a.r.all λr=>(look S.rw r).isSome
def A3(hint:M Nat)(d:M (Nat×ny))(g:lE):KT->M (M Nat×Nat)->SS->Gs->Nat->u (ST×M SO)
 | .nil,_,S,c,n=>Z (F6 O c (S.dF g))
 | .alt ⟨j,_,_,_,i⟩ is r,a,S,c,n=>
  if acm S (jQ j a) i=I then (match Rq hint d S c n i (λe k h=>
    if (jQ j a).all (λp=>(look e.bx p.2).isSome)=I then A3 hint d g is (jQ j a) e k h else O),A3 hint d g r a S c n with
   |some (m,t),Z (l,s)=>match pO s t with
    |(f,outs)=>if outs.all (λo=>aep g o.S)=I then Z (.both m (Om f l),outs) else O
   |_,_=>O) else O
 | .op ⟨j,q,w,v,i⟩ is,a,S,c,n=>
  if q=I then (if i.op.kX=I then (match QQ S c i with
   |some b=>Rq hint d S c n i (λe k h=>A3 hint d g is (po v a b) e k h)
   |none=>O) else O)
  else if acm S (jQ j a) i=I then Rq hint d S c n i (λe k h=>
   if (jQ j a).all (λp=>(look e.bx p.2).isSome)=I then A3 hint d g is (jQ j a) e k h else O) else O
section
variable {ρ:M D} {S:SS} {s:St} {G:Gf} {cf:Cf} {mf:Mf} {lH:M (Nat×ny)} {hint:M Nat} {n:Nat} {d:u Nat} {kn:Gs}
theorem S_(h:Rel ρ S s){c:SC}{v:C}{l:M Nat}(f:lK ρ c v)(a:U8 S c=Z l):∀q∈tF s v,q∈l:=by
 intro q g;cases c with
 |b x=>
  simp only[U8]at a
  split at a
  ·rename_i j;cases a;cases x with
   |d e=>obtain⟨y,_,rfl⟩:=f;simp[tF,C.cells,rowsOf]at g
   |nil k F=>simp only[lK,kz]at f;subst f;simp[tF,C.cells,rowsOf]at g
   |ref r=>simp only[lK,kz]at f;subst f;simpa [tF,C.cells,rowsOf,gD] using g
   |any=>cases j
  ·cases a
 |agg t=>
  simp only[U8]at a
  split at a
  ·rename_i j;cases a;obtain⟨w,rfl,p⟩:=f;simp only[tF,C.cells]at g
   rwa [oW p j]at g
  ·cases a
 |sh t=>obtain⟨w,rfl,p⟩:=f;simp[tF,C.cells,rowsOf]at g
 |ptr b o=>
  simp only[lK]at f;subst f;simp only[U8]at a
  split at a
  ·rename_i t A
   split at a
   ·rename_i j;cases a;obtain⟨w,p,B⟩:=h.bx b t A;simp only[tF,p,jo]at g
    rwa [oW B j]at g
   ·cases a
  ·cases a
 |pQ r k i o=>
  obtain⟨m,_,rfl⟩:=f;cases a;exact g
 |vj i o=>
  obtain⟨x,w,_,_,rfl⟩:=f;simp[tF,C.cells,rowsOf]at g
 |any=>cases a
theorem abE(h:Rel ρ S s){x:KX}{l:M Nat}(a:abD S x=Z l):∀q∈tF s (fW s x),q∈l:=by
 cases x with
 |s d=>
  simp only[abD]at a
  split at a
  ·rename_i g m;obtain⟨b,i,p,f⟩:=h.sl d g m
   split at a
   ·rename_i j;rw[j]at i;cases i;intro q e;simp only[fW,f rfl,tF,C.cells,rowsOf]at e;cases e
   ·cases b with
    |true=>exact S_ h (p rfl) a
    |false=>
     intro q e;simp only[fW,f rfl,tF,C.cells,rowsOf]at e;cases e
  ·cases a
 |k c=>
  simp only[abD]at a
  split at a
  ·rename_i r o;exact S_ h (cV h (gs:=[]) rfl o) a
  ·cases a
theorem TT(h:Rel ρ S s){e:M (M Nat×Nat)}{i:KI}(f:acm S e i=I):∀p∈e,(!(eP s i.dst i.op).contains p.2)=I/\(!(i.dst ==Z p.2))=I:=by
 intro p c;simp only[acm,ai,bw]at f;obtain⟨j,v⟩:=f;refine⟨?_,j p c⟩;rw[cq,ej];intro q;rcases Wb s i.dst i.op p.2 (by simpa using q) with hd|⟨x,k,m⟩
 ·have:=j p c;cases g:i.dst with
  |none=>rw[g]at hd;simp at hd
  |some a=>rw[g]at hd this;simp at hd;simp[hd]at this
 ·have:=v x k
  split at this
  ·rename_i l o;have t:=bw.1 this p c;have r:=abE h o _ m;simp[r]at t
  ·cases e with
   |nil=>cases c
   |cons a b=>cases this
theorem VC(h:Rel ρ S s){g:Gs}(f:jq ρ g=Z I){op:KO}{b:u Nat}(a:F5 S g op=Z b):pU s op=Z b:=by
 cases op with
 |ld n x=>
  simp only[F5]at a
  split at a
  ·rename_i k o c;cases a;have:=cV h f c;simp only[lK]at this;simp only[pU,this]
  ·rename_i i o c;cases a;obtain⟨x,j,_,_,e⟩:=cV h f c;simp only[pU,e]
  ·cases a
 |P0 x=>cases a
 |_=>exact a
theorem ZR(h:Rel ρ S s)(B:jq ρ kn=Z I){kp:lE}{j:Nat}{al dn:M Nat}{i:KI}{is:KT}{tk:M (M Nat×Nat)}{b:u Nat}(a:i.op.kX=I)(f:QQ S kn i=Z b) :
  ∃k,(∀p∈k,p∈po dn tk b)/\fP cf mf kp (.op ⟨j,I,al,dn,i⟩ is) tk s=(vB cf mf s i).bind (fP cf mf kp is k):=by
 have r:∀p∈tk,p∈po dn tk b:=by
  intro p a;unfold po;split
  ·exact bP _ a
  ·exact a
 have l:∀{gs:Gs},jq ρ gs=Z I->F5 S gs i.op=Z b->(match jf s i.op,pU s i.op with
   |some c,Z b=>fP cf mf kp is (po dn tk b) (s.put i.dst c)
   |_,_=>O)=(Dp cf mf s i.dst i.op).bind (fP cf mf kp is (po dn tk b)):=by
  intro gs y m;rw[VC h y m];simp only[Dp,a,if_true];cases jf s i.op<;>rfl
 obtain⟨d,op,gd⟩:=i;cases gd with
 |none=>
  refine⟨_,λp a=>a,?_⟩;simp only[fP,if_true,vB];exact l B f
 |some gw=>
  obtain⟨g,w⟩:=gw;simp only[QQ]at f;simp only[fP,if_true,vB];cases o:s.get g with
  |d x=>
   cases x with
   |bool t=>
    simp only
    by_cases H:t=w
    ·subst H;simp only[if_true];refine⟨_,λp a=>a,?_⟩
     split at f
     ·rename_i R e m;obtain⟨K,A,Q,C⟩:=h.sl g _ m;cases K with
      |false=>rw[C rfl]at o;cases o
      |true=>
       obtain⟨x,q1,q2⟩:=Q rfl;rw[o]at q2;cases q2;have y:=yK A (IS (gs:=[(e,t)]) λq v=>by simp only[cT]at v;subst v;exact q1)
       split at f
       ·rename_i P;obtain⟨p,a,v⟩:=kI.1 P;have L:=oB y p a;have F:=oB B _ (of_decide_eq_true v);simp only[L]at F;exact absurd F (by cases p.2<;>simp)
       ·exact l (yK y B) f
     ·rename_i R m
      split at f
      ·rename_i N;obtain⟨K,A,_,C⟩:=h.sl g _ m;rw[N]at A;cases A;rw[C rfl]at o;cases o
      ·cases f
     ·cases f
    ·simp only[if_neg H,dW];exact⟨tk,r,rfl⟩
   |_=>exact⟨tk,r,rfl⟩
  |vz=>simp only[dW];exact⟨tk,r,rfl⟩
  |_=>exact⟨tk,r,rfl⟩
theorem xK{j:Nat}{a b:M (M Nat×Nat)}(h:∀p∈a,p∈b):∀p∈jQ j a,p∈jQ j b:=λp c=>by
 obtain⟨f,e⟩:=nE.1 c;exact nE.2 ⟨h p f,e⟩
theorem V7{e:M Nat}{b:u Nat}{c f:M (M Nat×Nat)}(h:∀p∈c,p∈f):∀p∈po e c b,p∈po e f b:=λp a=>by
 cases b with
 |none=>exact h p a
 |some b=>
  rcases aL.1 a with a|a
  ·exact a▸bQ
  ·exact bP _ (h p a)
theorem TQ{a:Type}:∀{l:M a} {i:Nat} {x:a},nth l i=Z x->x∈l
 |y::l,0,x,h=>by cases h;exact bQ
 |y::l,i+1,x,h=>bP _ (TQ (l:=l) h)
theorem kz.zw{x:SB}{c g:C}(hd:x.zw=I)(h:kz ρ x c)(b:kz ρ x g):c=g:=by
 cases x with
 |d e=>
  obtain⟨y,i,rfl⟩:=h;obtain⟨a,f,rfl⟩:=b;rw[i]at f;cases f;rfl
 |any=>cases hd
 |_=>simp only[kz]at h b;rw[h,b]
theorem kz.ne{x:SB}{c:C}(hd:x.zw=I)(h:kz ρ x c):c≠.any:=by
 cases x with
 |d e=>obtain⟨y,a,rfl⟩:=h;intro h;cases h
 |any=>cases hd
 |_=>simp only[kz]at h;subst h;intro h;cases h
theorem eO.zw:∀{a:M SB} {e b:M C},a.all SB.zw=I->eO ρ a e->eO ρ a b->e=b
 |[],_,_,_,h,f=>by simp only[eO]at h f;rw[h,f]
 |x::a,_,_,hd,⟨c,e,j,i,g⟩,⟨o,b,m,l,k⟩=>by
  simp only[cX,ai]at hd;rw[j,m,i.zw hd.1 l,eO.zw hd.2 g k]
theorem vK.zw:∀{a:M (SB ⊕ M SB)} {e b:M C},UE a=I->vK ρ a e->vK ρ a b->e=b
 |[],_,_,_,h,o=>by simp only[vK]at h o;rw[h,o]
 | .inl x::a,_,_,hd,⟨c,e,i,g,f⟩,⟨p,b,m,k,j⟩=>by
  simp only[UE,ai]at hd;rw[i,m,g.zw hd.1 k,vK.zw hd.2 f j]
 | .inr l::a,_,_,hd,⟨c,e,i,g,f⟩,⟨p,b,m,k,j⟩=>by
  simp only[UE,ai]at hd;rw[i,m,g.zw hd.1 k,vK.zw hd.2 f j]
theorem lK.zw{x:SC}{c q:C}(hd:x.zw=I)(h:lK ρ x c)(f:lK ρ x q):c=q:=by
 cases x with
 |b x=>exact kz.zw hd h f
 |agg t=>
  obtain⟨p,rfl,e⟩:=h;obtain⟨g,rfl,a⟩:=f;rw[e.zw hd a]
 |sh t=>
  obtain⟨p,rfl,e⟩:=h;obtain⟨g,rfl,a⟩:=f;rw[e.zw hd a]
 |ptr b o=>simp only[lK]at h f;rw[h,f]
 |pQ r k i o=>
  obtain⟨m,e,rfl⟩:=h;obtain⟨w,a,rfl⟩:=f;rw[e]at a;cases a;rfl
 |vj i o=>
  obtain⟨x,p,e,a,rfl⟩:=h;obtain⟨v,g,l,j,rfl⟩:=f;rw[e]at l;cases l;rw[a]at j;cases j;rfl
 |any=>cases hd
theorem lK.ne{x:SC}{c:C}(hd:x.zw=I)(h:lK ρ x c):c≠.any:=by
 cases x with
 |b x=>exact kz.ne hd h
 |agg f=>obtain⟨e,rfl,a⟩:=h;intro h;cases h
 |sh f=>obtain⟨e,rfl,a⟩:=h;intro h;cases h
 |ptr b o=>simp only[lK]at h;subst h;intro h;cases h
 |pQ r k i o=>obtain⟨m,a,rfl⟩:=h;intro h;cases h
 |vj i o=>obtain⟨x,e,a,g,rfl⟩:=h;intro h;cases h
 |any=>cases hd
theorem Az{c:Type}(l b:M (Nat×c)):∀(a:M Nat),(∀d∈a,∃x,look l d=Z x/\look b d=Z x)->iP l a=iP b a
 |[],_=>rfl
 |d::a,h=>by
  obtain⟨x,i,g⟩:=h d (by simp);simp only[iP,i,g,Az l b a λe f=>h e (by simp[f])]
theorem Y0{a:lE}{s i:St}(h:Rel ρ S (s.dF a))(p:Rel ρ S (i.dF a))(hd:aep a S=I):s.dF a=i.dF a:=by
 simp only[aep,ai,bw]at hd;obtain⟨⟨H,F⟩,C⟩:=hd;have N:iP s.sl a.s=iP i.sl a.s:=by
  refine Az _ _ _ λd j=>?_;have e:=H d j
  split at e
  ·rename_i g t;obtain⟨b,q1,q2,B⟩:=h.sl d g t;obtain⟨U,l,k,A⟩:=p.sl d g t;rw[q1]at l;cases l;have f:(s.dF a).get d=(i.dF a).get d/\(s.dF a).get d≠.any:=by
    cases b with
    |false=>rw[B rfl,A rfl];exact⟨rfl,by intro h;cases h⟩
    |true=>
     have v:g.c.zw=I:=by
      simp only[da,decide_eq_true_eq]at e;rcases e with e|e
      ·exact e
      ·rw[e]at q1;cases q1
     exact⟨(q2 rfl).zw v (k rfl),(q2 rfl).ne v⟩
   rw[Fl s a j,Fl i a j]at f;unfold St.get at f;cases o:look s.sl d with
   |none=>rw[o]at f;exact absurd rfl f.2
   |some x=>
    cases w:look i.sl d with
    |none=>rw[o,w]at f;exact absurd f.1 (by intro h;rw[h]at f;exact f.2 rfl)
    |some y=>rw[o,w]at f;exact⟨x,rfl,by rw[show y=x from f.1.symm]⟩
  ·cases e
 have L:iP s.bx a.b=iP i.bx a.b:=by
  refine Az _ _ _ λd j=>?_;have e:=F d j
  split at e
  ·rename_i q m;obtain⟨P,q1,q2⟩:=h.bx d q m;obtain⟨R,l,k⟩:=p.bx d q m;have:=q2.zw e k;subst this;exact⟨P,(iU _ _ q1).1,(iU _ _ l).1⟩
  ·cases e
 have K:iP s.rw a.r=iP i.rw a.r:=by
  refine Az _ _ _ λd j=>?_;obtain⟨x,m⟩:=cD.1 (C d j);obtain⟨y,q1,es,q2,rfl⟩:=h.rw d x m;obtain⟨Q,l,T,k,rfl⟩:=p.rw d x m;rw[q2]at k;cases k;exact⟨_,(iU _ _ q1).1,(iU _ _ l).1⟩
 simp only[St.dF,N,L,K]
theorem Xe{c:Type}{a b:u c}{r:c}(h:both a b=Z r):a=Z r:=by
 unfold both at h
 split at h
 ·split at h
  ·cases h;rfl
  ·cases h
 ·cases h
theorem nk{f:lE}:∀{e:KT} {c:M (M Nat×Nat)} {s b:St},fP cf mf f e c s=Z b->∃g:St,b=g.dF f
 | .nil,c,s,b,h=>by simp only[fP,ae]at h;exact⟨s,h.symm⟩
 | .op ⟨j,q,l,k,i⟩ e,c,s,b,h=>by
  simp only[fP]at h
  split at h
  ·split at h
   ·split at h
    ·exact nk h
    ·cases h
   ·split at h
    ·split at h
     ·split at h
      ·exact nk h
      ·cases h
     ·exact nk h
    ·exact nk h
    ·cases h
  ·simp only[mi]at h
   split at h
   ·split at h
    ·exact nk h
    ·cases h
   ·cases h
 | .alt x e r,c,s,b,h=>by
  simp only[fP]at h;have a:=Xe h;simp only[mi]at a
  split at a
  ·split at a
   ·exact nk a
   ·cases a
  ·cases a
theorem xf(B:Gok cf lH G){kp:lE}:∀{is:KT} {tk R:M (M Nat×Nat)} {S:SS} {kn:Gs} {ρ:M D} {s:St} {t:ST} {outs:M SO},(∀p∈tk,p∈R)->Rel ρ S s->jq ρ kn=Z I->A3 hint lH kp is R S kn ρ.length=Z (t,outs)->
  Fits G t outs ρ (Ox (fP cf mf kp is tk s))
 | .nil,tk,R,S,kn,ρ,s,t,outs,l,h,m,e=>by
  simp only[A3,ae]at e;exact wK (h.dF kp) m e
 | .alt ⟨j,q,al,dn,i⟩ is r,tk,R,S,kn,ρ,s,t,outs,l,h,m,e=>by
  simp only[A3]at e
  split at e
  ·rename_i ho
   split at e
   ·rename_i ta oa tb ob hA hB;generalize x:pO ob oa=q at e;obtain⟨f,X⟩:=q;simp only at e
    split at e
    ·rename_i amD;cases e;obtain⟨q1,q2⟩:=qF x;have fA:Fits G ta oa ρ (Ox (mi cf mf ⟨j,q,al,dn,i⟩ tk s (fP cf mf kp is))):=by
      have Y:=TT h ho;have g:Ox (mi cf mf ⟨j,q,al,dn,i⟩ tk s (fP cf mf kp is))=(vB cf mf s i).bind λc=>if (jQ j tk).all (λp=>!(eP s i.dst i.op).contains p.2 && (look c.bx p.2).isSome && !(i.dst ==Z p.2))=I then Ox (fP cf mf kp is (jQ j tk) c) else O:=by
       simp only[mi];cases vB cf mf s i with
       |none=>rfl
       |some c=>simp only[dW];split<;>rfl
      rw[g];refine Ej B h m (run:=λc=>if (jQ j tk).all (λp=>!(eP s i.dst i.op).contains p.2 && (look c.bx p.2).isSome && !(i.dst ==Z p.2))=I then Ox (fP cf mf kp is (jQ j tk) c) else O) (λS' U c t outs C K k=>?_) hA
      split at k
      ·rename_i A;have hc:(jQ j tk).all (λp=>!(eP s i.dst i.op).contains p.2 && (look c.bx p.2).isSome && !(i.dst ==Z p.2))=I:=by
        rw[bw];intro p y;have T:=xK (j:=j) l p y;obtain⟨P,N⟩:=Y p T;have h3:=bw.1 A p T;have h4:(look c.bx p.2).isSome=I:=by
         obtain⟨V,w⟩:=cD.1 h3;obtain⟨cs,W,_⟩:=C.bx p.2 V w;rw[W];rfl
        rw[P,N,h4];rfl
       show Fits G t outs U (if _ then _ else _);rw[if_pos hc];exact xf B (xK l) C K k
      ·cases k
     have fB:=xf B l h m hB;intro j' σ hd;simp only[eV]at hd;obtain⟨d1,d2⟩:=Xd hd;obtain⟨o,sA,g1,Q,g3,g4⟩:=fA.more q2 j' σ d1;obtain⟨o',sB,w1,H,w3,w4⟩:=fB.map q1 j' σ d2;rw[g1]at w1;cases w1;have hA':∃a,mi cf mf ⟨j,q,al,dn,i⟩ tk s (fP cf mf kp is)=Z a:=by
      cases w:mi cf mf ⟨j,q,al,dn,i⟩ tk s (fP cf mf kp is) with
      |none=>rw[w]at Q;cases Q
      |some a=>exact⟨a,rfl⟩
     have hB':∃b,fP cf mf kp r tk s=Z b:=by
      cases w:fP cf mf kp r tk s with
      |none=>rw[w]at H;cases H
      |some a=>exact⟨a,rfl⟩
     obtain⟨a,A⟩:=hA';obtain⟨b,L⟩:=hB';have ka:∃s0:St,a=s0.dF kp:=by
      have F:=A;simp only[mi]at F
      split at F
      ·split at F
       ·exact nk F
       ·cases F
      ·cases F
     obtain⟨a0,rfl⟩:=ka;obtain⟨b0,rfl⟩:=nk L;rw[A]at Q;rw[L]at H;simp only[Ox,ae,aI]at Q H;obtain⟨ex,rfl⟩:=Q;obtain⟨_,rfl⟩:=H;have he:=Y0 g4 w4 (bw.1 amD o (TQ g1));refine⟨o,_,g1,?_,g3,g4⟩;simp only[fP,A,L,both,he,if_true,Ox,ex]
    ·cases e
   ·cases e
  ·cases e
 | .op ⟨j,q,al,dn,i⟩ is,tk,R,S,kn,ρ,s,t,outs,l,h,m,e=>by
  simp only[A3]at e
  split at e
  ·rename_i x;subst x
   split at e
   ·rename_i y
    split at e
    ·rename_i b L;obtain⟨v,P,N⟩:=ZR (cf:=cf) (mf:=mf) (kp:=kp) (j:=j) (al:=al) (dn:=dn) (is:=is) (tk:=tk) h m y L;rw[N];have g:Ox ((vB cf mf s i).bind (fP cf mf kp is v))=(vB cf mf s i).bind λc=>Ox (fP cf mf kp is v c):=by cases vB cf mf s i<;>rfl
     rw[g];exact Ej B h m (run:=λc=>Ox (fP cf mf kp is v c)) (λS' U c t outs C K k=>xf B (λp y=>V7 l p (P p y)) C K k) e
    ·cases e
   ·cases e
  ·rename_i x;have x:q=J:=by
    cases q with
    |false=>rfl
    |true=>exact absurd rfl x
   subst x
   split at e
   ·rename_i ho;have Y:=TT h ho;have g:Ox (fP cf mf kp (.op ⟨j,J,al,dn,i⟩ is) tk s)=(vB cf mf s i).bind λc=>if (jQ j tk).all (λp=>!(eP s i.dst i.op).contains p.2 && (look c.bx p.2).isSome && !(i.dst ==Z p.2))=I then Ox (fP cf mf kp is (jQ j tk) c) else O:=by
     simp only[fP,mi,aF,if_false];cases vB cf mf s i with
     |none=>rfl
     |some c=>simp only[dW];split<;>rfl
    rw[g];refine Ej B h m (run:=λc=>if (jQ j tk).all (λp=>!(eP s i.dst i.op).contains p.2 && (look c.bx p.2).isSome && !(i.dst ==Z p.2))=I then Ox (fP cf mf kp is (jQ j tk) c) else O) (λS' U c t outs C K k=>?_) e
    split at k
    ·rename_i A;have hc:(jQ j tk).all (λp=>!(eP s i.dst i.op).contains p.2 && (look c.bx p.2).isSome && !(i.dst ==Z p.2))=I:=by
      rw[bw];intro p y;have T:=xK (j:=j) l p y;obtain⟨P,N⟩:=Y p T;have h3:=bw.1 A p T;have h4:(look c.bx p.2).isSome=I:=by
       obtain⟨V,w⟩:=cD.1 h3;obtain⟨cs,W,_⟩:=C.bx p.2 V w;rw[W];rfl
      rw[P,N,h4];rfl
     show Fits G t outs U (if _ then _ else _);rw[if_pos hc];exact xf B (xK l) C K k
    ·cases k
   ·cases e
end
end
section
def abk{a:Type}(k:a->u (ST×M SO)):M a->M SO->u (ST×M SO)
 |[],acc=>Z (.nil,acc)
 |v::b,acc=>match k v with
  |some (t,os)=>match pO os acc with
   |(f,e)=>match abk k b e with
    |some (c,d)=>Z (.cons (Om f t) c,d)
    |none=>O
  |none=>O
def Ho:Nat->Nat->M SE
 |_,0=>[]
 |c,m+1=>.v c::Ho (c+1) m
def idO(o:SO):ST×M SO:=(.leaf 0 (Ho 0 o.m),[o])
def MW(id:Nat)(o:SO):SO:=if o.x=Z (Z id) then {o with x:=O } else o
def M_:M SO->M SO->M SO->M Nat×M SO×M SO
 |[],b,outs=>([],b,outs)
 |o::os,b,outs=>if o.x=O then (match HF o b with
   |(j,c)=>match M_ os c outs with
    |(f,r)=>(2 * j::f,r))
  else match HF o outs with
   |(j,a)=>match M_ os b a with
    |(f,r)=>((2 * j+1)::f,r)
def TD(k:SS->Nat->u (ST×M SO)):Nat->Nat->M SO->M SO->u (ST×M SO×M SO)
 |0,_,_,_=>O
 |fuel+1,i,b,outs=>match nth b i with
  |none=>Z (.nil,b,outs)
  |some o=>match k o.S o.m with
   |some (t,os)=>match M_ os b outs with
    |(f,d,a)=>match TD k fuel (i+1) d a with
     |some (c,r)=>Z (.cons (.map f t) c,r)
     |none=>O
   |none=>O
def aen(S:SS):SB->SB
 | .ref r=>match look S.rw r with
  |some x=>.d x.e
  |none=>.any
 | .nil k a=>.d (.k (.nil k a))
 |x=>x
def kn0:Gs:=[(.k (.bool I),I),(.k (.bool J),J)]
def qm(hint:M Nat)(g:M (Nat×ny)):K->SS->Nat->u (ST×M SO)
 | .skip,S,_=>Z (F6 O [] S)
 | .exit id,S,_=>Z (F6 (Z (Z id)) [] S)
 | .ret,S,_=>Z (F6 (Z O) [] S)
 | .Rf ops q,S,m=>Hf hint g q ops S kn0 m
 | .Wk ops q,S,m=>A3 hint g q ops [] S kn0 m
 | .seq a b,S,m=>match qm hint g a S m with
  |some (n,p)=>match abk (λo=>if o.x=O then qm hint g b o.S o.m else Z (idO o)) p []with
   |some (l,outs)=>Z (.seq n l,outs)
   |none=>O
  |none=>O
 | .cond c a b,S,m=>match sD (fS S [] c),qm hint g a S m,qm hint g b S m with
  |some e,Z (n,p),Z (s,v)=>match pO v p with
   |(f,outs)=>Z (.gd [(e,I)] n (Om f s),outs)
  |_,_,_=>O
 | .block id a,S,m=>match qm hint g a S m with
  |some (t,outs)=>match pO (outs.map (MW id)) []with
   |(f,h)=>Z (Om f t,h)
  |none=>O
 | .share r a,S,m=>match pK S [r]with
  |some i=>qm hint g a i m
  |none=>O
 | .Mu d a,S,m=>match look S.sl d with
  |some ⟨[],.b (.ref r)⟩=>match look S.rw r with
   |some x=>qm hint g a ((S.setRow r x.share).put (Z d) ⟨[],.b (.d x.e)⟩) m
   |none=>O
  |some ⟨[],.b (.d _)⟩=>qm hint g a S m
  |some ⟨[],.b (.nil k w)⟩=>qm hint g a (S.put (Z d) ⟨[],.b (.d (.k (.nil k w)))⟩) m
  |some ⟨[],.ptr b 0⟩=>match look S.bx b with
   |some j=>match pK S (gD j) with
    |some i=>if j.all SB.cell=I then qm hint g a (i.fY b (j.map (aen S))) m else O
    |none=>O
   |none=>O
  |_=>O
 | .loop a,S,m=>match Uz [] S with
  |(i,es)=>match TD (qm hint g a) 40 0 [⟨O,i,es.length⟩] []with
   |some (l,_,outs)=>Z (.loop 0 es l,outs)
   |none=>O
section
variable {ρ:M D} {S:SS} {s:St} {G:Gf} {T:Nat->u KF} {mf:Mf} {lH:M (Nat×ny)} {hint:M Nat}
theorem Sy{n:Type}{k:n->u (ST×M SO)}:∀{e:M n} {a b:M SO} {c:ST},abk k e a=Z (c,b)->
  (∀i x,nth a i=Z x->nth b i=Z x)/\∀j v,nth e j=Z v->∃t os,k v=Z (t,os)/\∀run ρ,Fits G t os ρ run->WL G c j b ρ run
 |[],a,b,c,h=>by cases h;exact⟨λ_ _ l=>l,λj v B=>(by cases B)⟩
 |v::e,a,b,c,h=>by
  simp only[abk]at h
  split at h
  ·rename_i t os H;generalize C:pO os a=q at h;obtain⟨f,V⟩:=q;simp only at h
   split at h
   ·rename_i y U K;cases h;obtain⟨P,N⟩:=qF C;obtain⟨r,L⟩:=Sy K;refine⟨λi x l=>r i x (N i x l),λj w p=>?_⟩;cases j with
    |zero=>
     cases p;refine⟨t,os,H,λrun ρ m i d hd=>?_⟩;have:=m.map (f:=f) (outs':=b) (λi o F=>by obtain⟨j,q1,q2⟩:=P i o F;exact⟨j,q1,r j o q2⟩);exact this i d hd
    |succ j=>
     obtain⟨A,g,R,Q⟩:=L j w p;exact⟨A,g,R,λrun ρ m i d hd=>Q run ρ m i d hd⟩
   ·cases h
  ·cases h
theorem Pk:∀{σ σ0:M D},iY (σ0++σ) (Ho σ0.length σ.length)=Z σ
 |[],_=>rfl
 |x::σ,σ0=>by
  have c:SE.d (σ0++x::σ) (.v σ0.length)=Z x:=jX σ0 x σ;have a:=Pk (σ:=σ) (σ0:=σ0++[x]);rw[bh,bB]at a;simp only[aH,Ho,iY,c];have b:iY (σ0++x::σ) (Ho (σ0.length+1) σ.length)=Z σ:=a;rw[b];rfl
theorem aeW{o:SO}(a:ρ.length=o.m)(h:Rel ρ o.S s):Fits G (idO o).1 (idO o).2 ρ (Z (UN o.x,s)):=by
 intro j σ hd;simp only[idO,eV]at hd;have:=Pk (σ:=ρ) (σ0:=[]);simp only[av,aJ,a]at this;rw[this]at hd;cases hd;exact⟨o,s,rfl,rfl,a,h⟩
theorem J0:∀{os e outs:M SO} {f:M Nat} {g a:M SO},M_ os e outs=(f,g,a)->
  (∀i x,nth e i=Z x->nth g i=Z x)/\(∀i x,nth outs i=Z x->nth a i=Z x)/\
  ∀i o,nth os i=Z o->∃c,nth f i=Z c/\if o.x=O then (∃j,c=2 * j/\nth g j=Z o) else ∃j,c=2 * j+1/\nth a j=Z o
 |[],e,outs,f,g,a,h=>by cases h;exact⟨λ_ _ h=>h,λ_ _ h=>h,λi o C=>(by cases C)⟩
 |o::os,e,outs,f,g,a,h=>by
  simp only[M_]at h
  split at h
  ·rename_i b;generalize t:HF o e=q at h;obtain⟨j,r⟩:=q;simp only at h
   generalize d:M_ os r outs=q at h;obtain⟨F,n,A⟩:=q;cases h;obtain⟨y,w⟩:=DG o t;obtain⟨m,l,v⟩:=J0 d;refine⟨λi x b=>m i x (w i x b),l,λi p k=>?_⟩;cases i with
   |zero=>cases k;exact⟨2 * j,rfl,by rw[if_pos b];exact⟨j,rfl,m j _ y⟩⟩
   |succ i=>exact v i p k
  ·rename_i b;generalize t:HF o outs=q at h;obtain⟨j,B⟩:=q;simp only at h
   generalize d:M_ os e B=q at h;obtain⟨F,n,A⟩:=q;cases h;obtain⟨y,w⟩:=DG o t;obtain⟨m,l,v⟩:=J0 d;refine⟨m,λi x b=>l i x (w i x b),λi p k=>?_⟩;cases i with
   |zero=>cases k;exact⟨2 * j+1,rfl,by rw[if_neg b];exact⟨j,rfl,l j _ y⟩⟩
   |succ i=>exact v i p k
theorem Og{k:SS->Nat->u (ST×M SO)}:∀{d i:Nat} {g outs H a:M SO} {n:ST},TD k d i g outs=Z (n,H,a)->
  (∀j x,nth g j=Z x->nth H j=Z x)/\(∀j x,nth outs j=Z x->nth a j=Z x)/\
  ∀j o,nth H (i+j)=Z o->∃t os f,k o.S o.m=Z (t,os)/\(∀ρ,eV G n j ρ=eV G (.map f t) 0 ρ)/\∀l b,nth os l=Z b->∃c,nth f l=Z c/\if b.x=O then (∃j,c=2 * j/\nth H j=Z b) else ∃j,c=2 * j+1/\nth a j=Z b
 |0,_,_,_,_,_,_,h=>by cases h
 |d+1,i,g,outs,H,a,n,h=>by
  simp only[TD]at h
  split at h
  ·rename_i X;cases h;refine⟨λ_ _ h=>h,λ_ _ h=>h,λj o C=>?_⟩
   exfalso
   have L:=Cm C;have K:∀{l:M SO} {i:Nat},nth l i=O->l.length<=i:=by
    intro l
    induction l with
    |nil=>intro i _;exact jt _
    |cons x l U=>
     intro i N;cases i with
     |zero=>cases N
     |succ i=>have:=U (i:=i) N;simp only[aH];omega
   have:=K X;omega
  ·rename_i o C
   split at h
   ·rename_i t os hk;generalize W:M_ os g outs=q at h;obtain⟨f,tm,y⟩:=q;simp only at h
    split at h
    ·rename_i Q r V;obtain⟨H',O'⟩:=r;cases h;obtain⟨L,K,h3⟩:=J0 W;obtain⟨F,P,h6⟩:=Og V;refine⟨λj x e=>F j x (L j x e),λj x e=>P j x (K j x e),λj p B=>?_⟩;cases j with
     |zero=>
      rw[cd,F i o (L i o C)]at B;cases B;refine⟨t,os,f,hk,λρ=>rfl,λl b Y=>?_⟩;obtain⟨c,q1,q2⟩:=h3 l b Y;refine⟨c,q1,?_⟩
      split at q2
      ·rename_i e;rw[if_pos e];obtain⟨j,w,v⟩:=q2;exact⟨j,w,F j b v⟩
      ·rename_i e;rw[if_neg e];obtain⟨j,w,v⟩:=q2;exact⟨j,w,P j b v⟩
     |succ j=>
      obtain⟨R,A,f',g1,g2,g3⟩:=h6 j p (by rw[cQ,Nat.add_comm 1 j];exact B);exact⟨R,A,f',g1,λρ=>g2 ρ,g3⟩
    ·cases h
   ·cases h
theorem aaq{g:St->u (Ex×St)}{x:SX}{s:St}(h:x≠O):H9 g (Z (UN x,s))=Z (UN x,s):=by
 cases x with
 |none=>exact absurd rfl h
 |some y=>cases y<;>rfl
theorem ahF{id:Nat}{o:SO}{s:St}:Xb id (Z (UN o.x,s))=Z (UN (MW id o).x,s):=by
 unfold MW;split
 ·rename_i h;rw[h];simp[UN,Xb]
 ·rename_i h;rcases a:o.x with _|_|i
  ·rfl
  ·rfl
  ·have:i≠id:=by rintro rfl;exact h a
   simp[UN,Xb,this]
theorem Oz{a β:Type}(f:a->β):∀{l:M a} {i:Nat} {x:a},nth l i=Z x->nth (l.map f) i=Z (f x)
 |_::_,0,_,h=>by cases h;rfl
 |_::l,i+1,_,h=>Oz f (l:=l) h
 |[],_,_,h=>by cases h
theorem G8:∀{c:M Nat} {S d:SS},pK S c=Z d->∀r∈c,∃x y,look S.rw r=Z x/\look d.rw r=Z y
 |[],_,_,_,r,e=>by cases e
 |q::c,S,d,h,r,e=>by
  simp only[pK]at h
  split at h
  ·rename_i x k;have dF:∀{c:M Nat} {S d:SS} {r:Nat} {y:SR},pK S c=Z d->look S.rw r=Z y->∃b,look d.rw r=Z b:=by
    intro c
    induction c with
    |nil=>intro S d r y h g;cases h;exact⟨y,g⟩
    |cons a c i=>
     intro S d r y h g;simp only[pK]at h
     split at h
     ·rename_i b j;by_cases f:a=r
      ·exact i h (y:=b.share) (by simp[SS.setRow,look,f])
      ·exact i h (y:=y) (by simp only[SS.setRow,look,if_neg f,eK];exact g)
     ·cases h
   rcases aL.1 e with rfl|e
   ·obtain⟨b,j⟩:=dF h (r:=r) (y:=x.share) (by simp[SS.setRow,look]);exact⟨x,b,k,j⟩
   ·obtain⟨n,y,m,l⟩:=G8 h r e;by_cases f:q=r
    ·exact⟨x,y,f▸k,l⟩
    ·simp only[SS.setRow,look,if_neg f,eK]at m;exact⟨n,y,m,l⟩
  ·cases h
theorem Sn(h:Rel ρ S s):∀{f:M SB} {i:M C},(∀r∈gD f,∃x,look S.rw r=Z x)->eO ρ f i->eO ρ (f.map (aen S)) (i.map (P8 s))
 |[],_,_,l=>by simp only[eO]at l;subst l;rfl
 |x::f,_,m,⟨c,i,o,b,n⟩=>by
  subst o;refine⟨_,_,rfl,?_,Sn h (λr q=>m r (by cases x<;>simp_all[gD])) n⟩;cases x with
  |ref r=>
   obtain⟨y,j⟩:=m r (by simp[gD]);obtain⟨a,g,es,p,rfl⟩:=h.rw r y j;simp only[kz]at b;subst b;simp only[aen,j,P8,g];exact⟨_,p,rfl⟩
  |d e=>obtain⟨y,g,rfl⟩:=b;exact⟨y,g,rfl⟩
  |nil k t=>simp only[kz]at b;subst b;exact⟨_,rfl,rfl⟩
  |any=>trivial
theorem mU(F:Gok (dM T) lH G):∀(k:K) {S:SS} {ρ:M D} {s:St} {t:ST} {outs:M SO},Rel ρ S s->qm hint lH k S ρ.length=Z (t,outs)->Fits G t outs ρ (ev T mf k s)
 | .skip,S,ρ,s,t,outs,h,n=>by
  simp only[qm,ae]at n;rw[Sw];exact wK h rfl n
 | .exit id,S,ρ,s,t,outs,h,n=>by
  simp only[qm,ae]at n;rw[Sv];exact wK h rfl n
 | .ret,S,ρ,s,t,outs,h,n=>by
  simp only[qm,ae]at n;rw[X6];exact wK h rfl n
 | .Rf ops kp,S,ρ,s,t,outs,h,n=>by
  simp only[qm]at n;rw[X5];exact JB F h rfl n
 | .Wk ops kp,S,ρ,s,t,outs,h,n=>by
  simp only[qm]at n;rw[X4];exact xf F (λ_ hp=>hp) h rfl n
 | .seq a b,S,ρ,s,t,outs,h,n=>by
  simp only[qm]at n
  split at n
  ·rename_i ta oa hA
   split at n
   ·rename_i ts P hf;cases n;have Q:=mU F a h hA;obtain⟨_,W⟩:=Sy (G:=G) hf;intro j σ hd;simp only[eV]at hd
    split at hd
    ·rename_i j0 R h0;obtain⟨o,C,g1,g2,g3,g4⟩:=Q j0 R h0;obtain⟨t',os',g5,g6⟩:=W j0 o g1;rw[X7,g2]
     split at g5
     ·rename_i L;rw[<- g3]at g5;have hfb:=mU F b g4 g5;rw[L];exact g6 _ R hfb j σ hd
     ·rename_i L;simp only[ae]at g5;have hi:=aeW (G:=G) g3 g4;rw[g5]at hi;rw[aaq L];exact g6 _ R hi j σ hd
    ·cases hd
   ·cases n
  ·cases n
 | .cond c a b,S,ρ,s,t,outs,h,n=>by
  simp only[qm]at n
  split at n
  ·rename_i e ta oa tb ob hc hA hB;generalize hq:pO ob oa=q at n;obtain⟨f,P⟩:=q;cases n;obtain⟨q1,q2⟩:=qF hq;obtain⟨y,V,X⟩:=lZ h (gs:=[]) rfl hc;rw[Kb,X];refine SL (λhg=>?_) λhg=>?_
   ·have:=oB hg (e,I) (by simp);simp only[V,ae]at this;subst this;exact (mU F a h hA).more q2
   ·obtain⟨p,hp,he⟩:=E6 hg;simp only[cT]at hp;subst hp;simp only[V,ae]at he;subst he;exact (mU F b h hB).map q1
  ·cases n
 | .block id a,S,ρ,s,t,outs,h,n=>by
  simp only[qm]at n
  split at n
  ·rename_i t' adZ hA;generalize hq:pO (adZ.map (MW id)) []=q at n;obtain⟨f,P⟩:=q;cases n;obtain⟨q1,_⟩:=qF hq;have Q:=mU F a h hA;rw[Nv];refine Fits.map (outs:=adZ.map (MW id)) ?_ q1;intro j σ hd;obtain⟨o,C,g1,g2,g3,g4⟩:=Q j σ hd;refine⟨MW id o,C,Oz _ g1,by rw[g2,ahF],?_,?_⟩
   ·rw[g3];unfold MW;split<;>rfl
   ·unfold MW;split<;>exact g4
  ·cases n
 | .share r a,S,ρ,s,t,outs,h,n=>by
  simp only[qm]at n
  split at n
  ·rename_i S' hS;rw[Nw];exact mU F a (qC h hS) n
  ·cases n
 | .Mu d a,S,ρ,s,t,outs,h,n=>by
  simp only[qm]at n;rw[X3];have U:∀{c:SC},look S.sl d=Z ⟨[],c⟩->lK ρ c (s.get d):=λA=>by
   obtain⟨b,Y,W,_⟩:=h.sl d _ A;cases Y;exact W rfl
  split at n
  ·rename_i r A;have N:=U A;simp only[lK,kz]at N
   split at n
   ·rename_i x L;obtain⟨y,Y,es,W,rfl⟩:=h.rw r x L;have hd:uk s d=Z ((eY s [r]).put (Z d) (.d (.list x.k x.fl es))):=by simp only[uk,N,Y]
    rw[hd,dW];refine mU F a (Rel.put ?_ _ (su.nil (c:=.b (.d x.e)) ⟨_,W,rfl⟩)) n;have:=qC (rs:=[r]) (S':=S.setRow r x.share) h (by simp[pK,L]);exact this
   ·cases n
  ·rename_i e A;obtain⟨y,_,N⟩:=U A;have hd:uk s d=Z s:=by simp only[uk,N]
   rw[hd,dW];exact mU F a h n
  ·rename_i k fl A;have N:=U A;simp only[lK,kz]at N;have hd:uk s d=Z (s.put (Z d) (.d (.list k fl []))):=by simp only[uk,N]
   rw[hd,dW];exact mU F a (h.put _ (su.nil (c:=.b (.d (.k (.nil k fl)))) ⟨_,rfl,rfl⟩)) n
  ·rename_i b A;have N:=U A;simp only[lK]at N
   split at n
   ·rename_i xs L
    split at n
    ·rename_i S' hS
     split at n
     ·rename_i hc;obtain⟨cs,Y,W⟩:=h.bx b xs L;have vv:=oW W hc;have hd:uk s d=Z ((eY s (rowsOf cs)).fY b (cs.map (P8 s))):=by simp only[uk,N,Y]
      rw[hd,dW,vv];refine mU F a (Rel.fY (qC h hS) b ?_) n;exact Sn h (λr hm=>by obtain⟨x,_,g,_⟩:=G8 hS r hm;exact⟨x,g⟩) W
     ·cases n
    ·cases n
   ·cases n
  ·cases n
 | .loop a,S,ρ,s,t,outs,h,n=>by
  simp only[qm]at n;generalize hq:Uz [] S=q at n;obtain⟨S',es⟩:=q;simp only at n
  split at n
  ·rename_i ts H i hL;cases n;obtain⟨Y,_,h3⟩:=Og (G:=G) hL;intro j σ hd;simp only[eV]at hd
   split at hd
   ·rename_i R h0;have mH:=Qt hd;have step:∀{p:Nat×M D} {sg:Sg (Nat×M D) (Nat×M D)} {o:SO} {s:St},E5 (eV G ts p.1 p.2)=Z sg->nth H p.1=Z o->p.2.length=o.m->Rel p.2 o.S s->
      ∃w C j v,ev T mf a s=Z (UN w.x,C)/\v.length=w.m/\Rel v w.S C/\((w.x=O/\sg=.go (j,v)/\nth H j=Z w)\/(w.x≠O/\sg=.out (j,v)/\nth outs j=Z w)):=by
     intro p sg o s B ho A hR;obtain⟨t,os,f,g1,g2,g3⟩:=h3 p.1 o (by rw[bo];exact ho);rw[g2]at B;simp only[eV]at B;rw[<- A]at g1;have Q:=mU F a hR g1
     split at B
     ·rename_i l v h0;obtain⟨w,C,V,X,w3,w4⟩:=Q l v h0;obtain⟨c,q1,q2⟩:=g3 l w V;rw[q1]at B;simp only[aQ,E5,ae]at B;refine⟨w,C,c / 2,v,X,w3,w4,?_⟩
      split at q2
      ·rename_i L;obtain⟨j,rfl,q3⟩:=q2;rw[if_pos (by omega)]at B;have e:2 * j / 2=j:=by omega
       exact .inl ⟨L,B.symm,by rw[e];exact q3⟩
      ·rename_i L;obtain⟨j,rfl,q3⟩:=q2;rw[if_neg (by omega)]at B;have e:(2 * j+1) / 2=j:=by omega
       exact .inr ⟨L,B.symm,by rw[e];exact q3⟩
     ·cases B
    have main:∀{p r:Nat×M D},Bf (λp=>E5 (eV G ts p.1 p.2)) p r->∀{o:SO} {s:St},nth H p.1=Z o->p.2.length=o.m->Rel p.2 o.S s->∃w C,nth outs r.1=Z w/\ev T mf (.loop a) s=Z (UN w.x,C)/\r.2.length=w.m/\Rel r.2 w.S C:=by
     intro p r N
     induction N with
     |out B=>
      intro o s ho A hR;obtain⟨w,C,j,v,V,X,w3,w4⟩:=step B ho A hR;rcases w4 with ⟨_,w5,_⟩|⟨w5,w6,w7⟩
      ·cases w5
      ·cases w6;exact⟨w,C,w7,by rw[gN,V,aaq w5],X,w3⟩
     |go B DV ih=>
      intro o s ho A hR;obtain⟨w,C,j,v,V,X,w3,w4⟩:=step B ho A hR;rcases w4 with ⟨w5,w6,w7⟩|⟨_,w6,_⟩
      ·cases w6;obtain⟨o2,s2,v1,v2,v3⟩:=ih w7 X w3;refine⟨o2,s2,v1,?_,v3⟩;rw[gN,V,w5];exact v2
      ·cases w6
    exact main mH (Y 0 _ rfl) (ly h0) (Sj h rfl hq h0)
   ·cases hd
  ·cases n
end
end
section
def yC:Nat->M SA->Nat->SS->u SS
 |_,[],_,S=>Z S
 |p,.val d l::as,c,S=>match QN p 0 l c S with
  |(xs,a)=>if d=I then yC (p+1) as (c+l.length) (a.put (Z p) ⟨[],.agg xs⟩) else match xs with
   |[x]=>yC (p+1) as (c+l.length) (a.put (Z p) ⟨[],.b x⟩)
   |_=>O
 |p,.box l::as,c,S=>match QN (p+500) 0 l c S with
  |(xs,a)=>yC (p+1) as (c+l.length) ((a.lY (900+p) xs).put (Z p) ⟨[],.ptr (900+p) 0⟩)
def wrA(S:SS)(b:Bool)(a:M SB):u (SA×M SE×M Nat):=
 match gB (wrS S) a with
 |some l=>Z (.val b (l.map (·.1)),l.map (·.2),gD a)
 |none=>O
def T9(S:SS):KR->u (SA×M SE×M Nat)
 | .t d=>match look S.sl d with
  |some ⟨[],c⟩=>match c.cells with
   |some a=>wrA S c.isAgg a
   |none=>O
  |_=>O
 | .c d n=>match look S.sl d with
  |some ⟨[],.ptr b 0⟩=>match look S.bx b with
   |some a=>if n=0 then (match a with
     |[x]=>wrA S J [x]
     |_=>O) else if a.length=n then wrA S I a else O
   |none=>O
  |_=>O
def LX(S:SS):M KR->u (M SA×M SE×M Nat)
 |[]=>Z ([],[],[])
 |r::rs=>match T9 S r,LX S rs with
  |some (a,es,l),Z (as,fs,b)=>Z (a::as,es++fs,l++b)
  |_,_=>O
def Cq(S:SS):Nat->M SA->u (M SA×M SE×M Nat)
 |_,[]=>Z ([],[],[])
 |p,.val _ _::as=>Cq S (p+1) as
 |p,.box _::as=>match look S.bx (900+p) with
  |some a=>match gB (wrS S) a,Cq S (p+1) as with
   |some l,Z (c,fs,b)=>Z (.box (l.map (·.1))::c,l.map (·.2)++fs,gD a++b)
   |_,_=>O
  |none=>O
def idxOf{a:Type}[DecidableEq a](x:a):M a->u Nat
 |[]=>O
 |y::l=>if y=x then Z 0 else (idxOf x l).map (·+1)
def Lk(c:KF)(a:ny)(o:SO):u ST:=
 if o.x=O\/o.x=Z O then
  match LX o.S c.res,Cq o.S 0 a.args with
  |some (rs,es,l),Z (os,fs,b)=>if kG (l++b)=I then (match idxOf (rs,os) a.res with
   |some j=>Z (.leaf j (es++fs))
   |none=>O) else O
  |_,_=>O
 else O
def DX(b:KF)(a:ny):M SO->u ST
 |[]=>Z .nil
 |o::os=>match Lk b a o,DX b a os with
  |some t,Z c=>Z (.cons t c)
  |_,_=>O
def Z8(hint:M Nat)(d:M (Nat×ny))(b:KF)(a:ny):u ST:=
 match yC 0 a.args 0 ⟨[],[],[]⟩ with
 |some S=>match qm hint d b.body S (zR a.args) with
  |some (t,outs)=>match DX b a outs with
   |some c=>Z (.seq t c)
   |none=>O
  |none=>O
 |none=>O
section
variable {ρ:M D} {S:SS} {s:St}
theorem xo:∀{l:M SA} {p c:Nat} {S j:SS} {s:St} {e:M D} {as:M A},Rel ρ S s->iC l e=Z as->Loc ρ c e->yC p l c S=Z j->Rel ρ j (jW p as s)
 |[],p,c,S,j,s,e,as,h,g,f,d=>by
  cases e with
  |nil=>cases g;cases d;exact h
  |cons a e=>cases g
 | .val P l::as,p,c,S,j,s,e,rs,h,g,f,d=>by
  obtain⟨r,K,i,n,rfl⟩:=ja g;simp only[nM]at i;obtain⟨B,w,rfl⟩:=ak.1 i;simp only[yC]at d;generalize v:QN p 0 l c S=q at d;obtain⟨x,H⟩:=q;simp only at d
  obtain⟨y,F,t,m,k⟩:=BO h w (f.take _) v;simp only[jW,Bz,t]
  split at d
  ·rename_i o;rw[if_pos o];exact xo (m.put (Z p) (su.nil (c:=.agg x) ⟨y,rfl,k⟩)) n (f.drop _) d
  ·rename_i o;rw[if_neg o]
   split at d
   ·obtain⟨N,G,rfl,C,L⟩:=k;exact xo (m.put (Z p) (su.nil (c:=.b _) C)) n (f.drop _) d
   ·cases d
 | .box l::as,p,c,S,j,s,e,rs,h,g,f,d=>by
  obtain⟨r,K,i,n,rfl⟩:=ja g;simp only[nM]at i;obtain⟨B,w,rfl⟩:=ak.1 i;simp only[yC]at d;generalize v:QN (p+500) 0 l c S=q at d;obtain⟨x,H⟩:=q;simp only at d
  obtain⟨y,F,t,m,k⟩:=BO h w (f.take _) v;simp only[jW,Bz,t];exact xo ((m.lY (900+p) k).put (Z p) su.ptr) n (f.drop _) d
theorem R1(h:Rel ρ S s){f:M SB}{e:M C}{k:Bool}{a:SA}{es:M SE}{l:M Nat}(g:eO ρ f e)(c:wrA S k f=Z (a,es,l)) :
  ∃d b,iY ρ es=Z d/\gB (j_ s) e=Z b/\nM a d=Z (.val k b)/\d.length=a.n/\rowsOf e=l:=by
 unfold wrA at c
 split at c
 ·rename_i q i;cases c;obtain⟨ys,b,o,m,j⟩:=Ek h g i;exact⟨ys,b,o,m,by simp only[nM,j,aQ],oz j,oW g (tM (p:=SB.cell) (λ_ _=>A_) i)⟩
 ·cases c
theorem aaL{b:M SB}{d:Bool}{r:SA×M SE×M Nat}(a:wrA S d b=Z r):b.all SB.cell=I:=by
 unfold wrA at a
 split at a
 ·rename_i e c;exact tM (p:=SB.cell) (λ_ _=>A_) c
 ·cases a
theorem aec{c:SC}{v:C}{a:M SB}(d:lK ρ c v)(e:c.cells=Z a)(f:a.all SB.cell=I):v.isAgg=c.isAgg:=by
 cases c with
 |b x=>
  cases e;have:=kz.cell d (by simpa using f);cases v<;>first|rfl|cases this
 |agg ys=>obtain⟨g,rfl,_⟩:=d;rfl
 |_=>cases e
theorem ZY(h:Rel ρ S s){r:KR}{a:SA}{es:M SE}{l:M Nat}(e:T9 S r=Z (a,es,l)):∃f x,LW s r=Z (x,l)/\iY ρ es=Z f/\nM a f=Z x/\f.length=a.n:=by
 cases r with
 |t d=>
  simp only[T9]at e
  split at e
  ·rename_i c q;obtain⟨b,w,v,_⟩:=h.sl d _ q;cases w;have i:=v rfl
   split at e
   ·rename_i A G;have F:=aaL e;obtain⟨f,C,q1,q2,k,j,g⟩:=R1 h (i.cells G F) e;have y:=aec i G F;simp only at y q2 g
    exact⟨f,_,by simp only[LW,q2,aQ,y,g],q1,k,j⟩
   ·cases e
  ·cases e
 |c d n=>
  simp only[T9]at e
  split at e
  ·rename_i b q;obtain⟨R,w,v,_⟩:=h.sl d _ q;cases w;have i:=v rfl;simp only[lK]at i
   split at e
   ·rename_i A K;obtain⟨P,H,o⟩:=h.bx _ A K
    split at e
    ·rename_i p
     split at e
     ·rename_i x;obtain⟨f,C,q1,q2,k,j,g⟩:=R1 h o e;obtain⟨Q,L,rfl,N,B⟩:=o;simp only[eO]at B;subst B;exact⟨f,_,by simp only[LW,i,H,p,if_true,q2,aQ,g],q1,k,j⟩
     ·cases e
    ·rename_i p
     split at e
     ·rename_i m;obtain⟨f,C,q1,q2,k,j,g⟩:=R1 h o e;exact⟨f,_,by simp only[LW,i,H,if_neg p];rw[if_pos (by rw[o.len,m]),q2];simp only[aQ,g],q1,k,j⟩
     ·cases e
   ·cases e
  ·cases e
theorem IE:∀{a:SA} {as:M SA} {b c:M D} {x:A} {d:M A},nM a b=Z x->b.length=a.n->iC as c=Z d->iC (a::as) (b++c)=Z (x::d):=by
 intro a as b c x d g e f;simp only[iC,take_left' e,drop_left' e,g,f,aQ]
theorem Js(h:Rel ρ S s):∀{e:M KR} {as:M SA} {es:M SE} {l:M Nat},LX S e=Z (as,es,l)->∃d c,AT s e=Z (c,l)/\iY ρ es=Z d/\iC as d=Z c
 |[],_,_,_,b=>by cases b;exact⟨[],[],rfl,rfl,rfl⟩
 |r::e,as,es,l,b=>by
  simp only[LX]at b
  split at b
  ·rename_i a v q t fs p o n;cases b;obtain⟨d,x,q1,q2,m,k⟩:=ZY h o;obtain⟨j,c,i,g,f⟩:=Js h n;exact⟨d++j,x::c,by simp only[AT,q1,i,aQ],rU q2 g,IE m k f⟩
  ·cases b
theorem Cr(h:Rel ρ S s):∀{args:M SA} {as:M A} {e:M D} {p:Nat} {i:M SA} {es:M SE} {l:M Nat},iC args e=Z as->Cq S p args=Z (i,es,l)->∃d c,wW s p as=Z (c,l)/\iY ρ es=Z d/\iC i d=Z c
 |[],as,e,p,i,es,l,f,b=>by
  cases e with
  |nil=>cases f;cases b;exact⟨[],[],rfl,rfl,rfl⟩
  |cons a e=>cases f
 | .val R B::args,as,e,p,i,es,l,f,b=>by
  obtain⟨r,L,g,n,rfl⟩:=ja f;simp only[nM]at g;obtain⟨x,G,rfl⟩:=ak.1 g;simp only[Cq]at b;obtain⟨d,c,m,k,j⟩:=Cr h n b;exact⟨d,c,by simp only[wW,VP,m,aQ,av],k,j⟩
 | .box B::args,as,e,p,i,es,l,f,b=>by
  obtain⟨r,L,g,n,rfl⟩:=ja f;simp only[nM]at g;obtain⟨x,G,rfl⟩:=ak.1 g;simp only[Cq]at b
  split at b
  ·rename_i c F
   split at b
   ·rename_i N K fs P t C;cases b;obtain⟨Q,H,v⟩:=h.bx _ c F;obtain⟨ys,y,q1,q2,q⟩:=Ek h v t;obtain⟨d,w,m,k,j⟩:=Cr h n C;have o:=oW v (tM (p:=SB.cell) (λ_ _=>A_) t);refine⟨ys++d,.box y::w,?_,rU q1 k,IE (by simp only[nM,q,aQ]) (oz q) j⟩;simp only[wW,VP,H,q2,m,aQ,o,au,av]
   ·cases b
  ·cases b
theorem N0{a:Type}[DecidableEq a]{x:a}:∀{l:M a} {j:Nat},idxOf x l=Z j->nth l j=Z x
 |[],_,h=>by cases h
 |y::l,j,h=>by
  simp only[idxOf]at h
  split at h
  ·rename_i b;cases h;rw[b];rfl
  ·obtain⟨d,c,rfl⟩:=ak.1 h;exact N0 (l:=l) c
theorem XF{v:M SA×M SA}{a b:M D}{c os:M A}(e:iC v.1 a=Z c)(f:iC v.2 b=Z os):Ad v (a++b)=Z (c,os):=by
 have d:=qv e;simp only[Ad,take_left' d,drop_left' d,e,f]
theorem VE{G:Gf}{d:KF}{c:ny}{o:SO}{t:ST}{as:M A}{m:M D}(h:Rel ρ o.S s)(y:iC c.args m=Z as)(a:Lk d c o=Z t){j:Nat}{e:M D}(hd:eV G t 0 ρ=Z (j,e)) :
  ∃v r,nth c.res j=Z v/\Ad v e=Z r/\fin d as (Z (UN o.x,s))=Z r:=by
 unfold Lk at a
 split at a
 ·rename_i b
  split at a
  ·rename_i n es l os fs K C B
   split at a
   ·rename_i q
    split at a
    ·rename_i L w;cases a;obtain⟨F,f,q1,q2,p⟩:=Js h C;obtain⟨H,ys,k,i,g⟩:=Cr h y B;simp only[eV,rU q2 i,ae,aI]at hd;obtain⟨rfl,rfl⟩:=hd;refine⟨(n,os),(f,ys),N0 w,XF p g,?_⟩;have:leave d as s=Z (f,ys):=by simp only[leave,q1,k,q,if_true]
     rcases b with b|b<;>(rw[b];exact this)
    ·cases a
   ·cases a
  ·cases a
 ·cases a
theorem F8{G:Gf}{d:KF}{c:ny}:∀{outs:M SO} {a:ST},DX d c outs=Z a->∀j o,nth outs j=Z o->∃t,Lk d c o=Z t/\∀ρ,eV G a j ρ=eV G t 0 ρ
 |[],a,h,j,o,b=>by cases b
 |p::outs,a,h,j,o,b=>by
  simp only[DX]at h
  split at h
  ·rename_i t e i g;cases h;cases j with
   |zero=>cases b;exact⟨t,i,λρ=>rfl⟩
   |succ j=>
    obtain⟨f,l,k⟩:=F8 (G:=G) g j o b;exact⟨f,l,λρ=>k ρ⟩
  ·cases h
theorem ac3{T:Nat->u KF}{w:M (Nat×ny)}{G:Gf}(U:Gok (dM T) w G){hint:M Nat}{f:Nat}{e:KF}(N:T f=Z e)(V:e.np≠999){k:ny}(YD:k.args.length=e.np){t:ST}(b:Z8 hint w e k=Z t)
  {q d:M D} {as:M A} {j:Nat} (n:iC k.args q=Z as) (hd:eV G t 0 q=Z (j,d)):∃v r,nth k.res j=Z v/\Ad v d=Z r/\dM T f as=Z r:=by
 have g:∀{l:M SA} {d:M D} {m:M A},iC l d=Z m->m.length=l.length:=by
  intro l
  induction l with
  |nil=>intro d m h;cases d<;>cases h;rfl
  |cons a l K=>
   intro d m h;obtain⟨r,HY,_,W,rfl⟩:=ja h;simp[K W]
 unfold Z8 at b
 split at b
 ·rename_i S P
  split at b
  ·rename_i t0 outs B
   split at b
   ·rename_i ts R;cases b;have X:Rel q ⟨[],[],[]⟩ ⟨[],[],[]⟩:=⟨λ_ _ h=>(by cases h),λ_ _ h=>(by cases h),λ_ _ h=>(by cases h)⟩
    have Q:=xo X n (c:=0) (λi x L=>by rw[bo];exact L) P;rw[<- qv n]at B;have BK:=mU (mf:=tN) U e.body Q B;simp only[eV]at hd
    split at hd
    ·rename_i y p S4;obtain⟨o,s',g1,g2,g3,g4⟩:=BK y p S4;obtain⟨t',g5,Y⟩:=F8 (G:=G) R y o g1;rw[Y]at hd;obtain⟨v,r,H,F,C⟩:=VE g4 n g5 hd;refine⟨v,r,H,F,?_⟩;rw[TC T N V];unfold run;rw[if_pos (by rw[g n,YD]),g2];exact C
    ·cases hd
   ·cases b
  ·cases b
 ·cases b
end
end
def Dm:RV->JK×D
 | .d x=>(.d,x)
 | .row r=>(.row r.k r.fl r.deep r.app r.fz,.list r.k r.fl r.es)
def ED:A->SA×M D
 | .val a l=>(.val a (l.map λv=>(Dm v).1),l.map λv=>(Dm v).2)
 | .box l=>(.box (l.map λv=>(Dm v).1),l.map λv=>(Dm v).2)
def tw:M A->M SA×M D
 |[]=>([],[])
 |a::as=>((ED a).1::(tw as).1,(ED a).2++(tw as).2)
def P_(r:M A×M A):(M SA×M SA)×M D:=(((tw r.1).1,(tw r.2).1),(tw r.1).2++(tw r.2).2)
theorem XI(v:RV):EK (Dm v).1 (Dm v).2=Z v:=by
 cases v with
 |d x=>rfl
 |row r=>simp[Dm,EK]
theorem IF:∀(l:M RV),ot (l.map λv=>(Dm v).1) (l.map λv=>(Dm v).2)=Z l
 |[]=>rfl
 |v::l=>by simp only[aW,ot,XI,IF l,aQ]
theorem Xk(a:A):(ED a).2.length=(ED a).1.n:=by cases a<;>simp[ED,SA.n]
theorem XE(a:A):nM (ED a).1 (ED a).2=Z a:=by cases a<;>simp only[ED,nM,IF,aQ]
theorem By:∀(as:M A),iC (tw as).1 (tw as).2=Z as
 |[]=>rfl
 |a::as=>by
  simp only[tw];unfold iC;rw[List.take_left' (Xk a),List.drop_left' (Xk a),XE,By as];rfl
theorem XG(r:M A×M A):Ad (P_ r).1 (P_ r).2=Z r:=by
 have h:(tw r.1).2.length=zR (tw r.1).1:=qv (By r.1);simp only[P_,Ad,List.take_left' h,List.drop_left' h,By]
theorem Xp{v:JK}{x:D}{r:RV}(h:EK v x=Z r):Dm r=(v,x):=by
 unfold EK at h
 split at h
 ·cases h;rfl
 ·split at h
  ·rename_i a;obtain⟨rfl,rfl⟩:=a;cases h;rfl
  ·cases h
 ·cases h
theorem Bt:∀{l:M JK} {b:M D} {a:M RV},ot l b=Z a->(a.map λv=>(Dm v).1)=l/\(a.map λv=>(Dm v).2)=b
 |[],[],_,h=>by cases h;exact⟨rfl,rfl⟩
 |[],_::_,_,h=>by cases h
 |_::_,[],_,h=>by cases h
 |v::l,x::b,a,h=>by
  simp only[ot]at h
  split at h
  ·rename_i r c;obtain⟨g,f,rfl⟩:=ak.1 h;obtain⟨e,d⟩:=Bt f;simp only[aW,e,d,Xp c];exact⟨trivial,trivial⟩
  ·cases h
theorem Xn{a:SA}{e:M D}{r:A}(h:nM a e=Z r):ED r=(a,e):=by
 cases a with
 |val g l=>
  simp only[nM]at h;obtain⟨f,d,rfl⟩:=ak.1 h;obtain⟨c,b⟩:=Bt d;simp only[ED,c,b]
 |box l=>
  simp only[nM]at h;obtain⟨f,d,rfl⟩:=ak.1 h;obtain⟨c,b⟩:=Bt d;simp only[ED,c,b]
theorem Br:∀{l:M SA} {b:M D} {c:M A},iC l b=Z c->tw c=(l,b)
 |[],[],_,h=>by cases h;rfl
 |[],_::_,_,h=>by cases h
 |a::as,b,c,h=>by
  obtain⟨r,f,e,d,rfl⟩:=ja h;simp only[tw,Xn e,Br d,bI]
theorem Xo{v:M SA×M SA}{a:M D}{r:M A×M A}(h:Ad v a=Z r):P_ r=(v,a):=by
 unfold Ad at h
 split at h
 ·rename_i d outs c b;cases h;simp only[P_,Br c,Br b,bI]
 ·cases h
theorem Ta{a:Type}[DecidableEq a]{x:a}:∀{l:M a} {j:Nat},idxOf x l=Z j->nth l j=Z x
 |y::l,j,h=>by
  simp only[idxOf]at h
  split at h
  ·rename_i b;cases h;rw[b];rfl
  ·obtain⟨i,c,rfl⟩:=ak.1 h;exact (show nth l i=Z x from Ta c)
theorem bc{a:Type}:∀{l:M a} {i:Nat} {x:a},nth l i=Z x->x∈l
 |y::l,0,x,h=>by cases h;exact bQ
 |y::l,i+1,x,h=>bP _ (bc (l:=l) h)
theorem TO{a:Type}[DecidableEq a]{x:a}:∀{l:M a} {j:Nat},l.Nodup->nth l j=Z x->idxOf x l=Z j
 |y::l,0,b,h=>by cases h;simp[idxOf]
 |y::l,j+1,b,h=>by
  have c:y≠x:=λe=>(cC.1 b).1 (e▸bc (l:=l) h);simp only[idxOf,if_neg c,TO (cC.1 b).2 h,aQ]
noncomputable def GF(T:Nat->u KF)(c:M (Nat×ny)):Gf:=λi b=>
 match look c i with
 |some a=>match iC a.args b with
  |some as=>match dM T a.f as with
   |some r=>(idxOf (P_ r).1 a.res).map (·,(P_ r).2)
   |none=>O
  |none=>O
 |none=>O
theorem Ih(T:Nat->u KF)(a:M (Nat×ny)):Gok (dM T) a (GF T a):=by
 intro i l d g j k h;simp only[GF,d]at h
 split at h
 ·rename_i as e
  split at h
  ·rename_i r c;obtain⟨m,f,b⟩:=ak.1 h;simp only[aI]at b;obtain⟨rfl,rfl⟩:=b;exact⟨as,r,_,e,Ta f,XG r,c⟩
  ·cases h
 ·cases h
theorem yx{T:Nat->u KF}{b:M (Nat×ny)}{i:Nat}{sg:ny}(e:look b i=Z sg){ws a:M D}{as:M A}{r:M A×M A}{v:M SA×M SA}{j:Nat}(h:iC sg.args ws=Z as)
  (d:dM T sg.f as=Z r) (c:Ad v a=Z r) (g:idxOf v sg.res=Z j):GF T b i ws=Z (j,a):=by
 simp only[GF,e,h,d,Xo c,g,aQ]
theorem aho{T:Nat->u KF}{b:M (Nat×ny)}{i:Nat}{a:ny}{hint:M Nat}{c:KF}{t:ST}(m:look b i=Z a)(n:T a.f=Z c)(h:(a.args.length ==c.np && fV c.np 999 && decide a.res.Nodup)=I)
  (l:Z8 hint b c a=Z t) {d e:M D} {as:M A} {j:Nat} (g:iC a.args d=Z as) (hd:eV (GF T b) t 0 d=Z (j,e)):GF T b i d=Z (j,e):=by
 simp only[ai,beq_iff_eq,decide_eq_true_eq,oh]at h;obtain⟨⟨p,q⟩,o⟩:=h;obtain⟨v,r,q1,q2,k⟩:=ac3 (Ih T b) n (by omega) p l g hd;exact yx m g k q2 (TO o q1)
structure j6 where
 lo:Int
 hi:Int
 deriving DecidableEq
structure gK where
 aq:Int
 ranges:List j6
 names:List ByteArray
 pattern:ByteArray
 path:ByteArray
 deriving DecidableEq
structure mC where
 aj:ByteArray
 aS:ByteArray
 deriving DecidableEq
structure pN where
 aj:ByteArray
 gu:List mC
 deriving DecidableEq
structure nG where
 root:Bool
 oY:Int
 steps:List pN
 deriving DecidableEq
structure dv where
 op:Int
 num:Int
 text:ByteArray
 path:nG
 aa:List dv
structure ah where
 aq:Int
 aj:ByteArray
 type:gK
 a_:List ByteArray
 unique:List ByteArray
 default:ByteArray
 given:Bool
 fo:Bool
 df:Bool
 fixed:Bool
 min:Int
 max:Int
 when:List dv
 jy:List dv
 aa:List ah
structure az where
 aj:ByteArray
 aS:ByteArray
 aa:List az
structure dx where
 op:Int
 text:ByteArray
 aa:List dx
def fe(s:z):M D:=[.str s]
def CP(b:Bool):M D:=[.bool b]
def k9(x:j6):M D:=[.int .i64 x.lo,.int .i64 x.hi]
abbrev bu(l:M z):D:=.list 1 I (l.map fe)
abbrev bO(l:M Bool):D:=.list 1 I (l.map CP)
abbrev fU(l:M j6):D:=.list 2 I (l.map k9)
def ew(x:gK):M D:=[.int .i64 x.aq,fU x.ranges,bu x.names,.str x.pattern,.str x.path]
def pP(x:mC):M D:=[.str x.aj,.str x.aS]
abbrev jv(l:M mC):D:=.list 2 I (l.map pP)
def iO(x:pN):M D:=[.str x.aj,jv x.gu]
abbrev dU(l:M pN):D:=.list 2 J (l.map iO)
def ib(x:nG):M D:=[.bool x.root,.int .i64 x.oY,dU x.steps]
theorem dv.Kx{x y:dv}(h:y∈x.aa):aw y < aw x:=by
 have a:=bj h;cases x;simp only[dv.mk.sizeOf_spec];dsimp only at a;omega
def cu(x:dv):M D:=[.int .i64 x.op,.int .i64 x.num,.str x.text,.bool x.path.root,.int .i64 x.path.oY,dU x.path.steps,.list 7 J (x.aa.map λy=>cu y)]
termination_by aw x
decreasing_by exact dv.Kx (by assumption)
abbrev cZ(l:M dv):D:=.list 7 J (l.map cu)
theorem bT(x:dv):cu x=[.int .i64 x.op,.int .i64 x.num,.str x.text,.bool x.path.root,.int .i64 x.path.oY,dU x.path.steps,cZ x.aa]:=by rw[cu]
theorem ah.Kx{x y:ah}(h:y∈x.aa):aw y < aw x:=by
 have a:=bj h;cases x;simp only[ah.mk.sizeOf_spec];dsimp only at a;omega
def ax(x:ah):M D:=[.int .i64 x.aq,.str x.aj,.int .i64 x.type.aq,fU x.type.ranges,bu x.type.names,.str x.type.pattern,.str x.type.path,bu x.a_,bu x.unique,.str x.default,.bool x.given,.bool x.fo,.bool x.df,.bool x.fixed,.int .i64 x.min,.int .i64 x.max,cZ x.when,cZ x.jy,.list 19 J (x.aa.map λy=>ax y)]
termination_by aw x
decreasing_by exact ah.Kx (by assumption)
abbrev aB(l:M ah):D:=.list 19 J (l.map ax)
theorem af(x:ah):ax x=[.int .i64 x.aq,.str x.aj,.int .i64 x.type.aq,fU x.type.ranges,bu x.type.names,.str x.type.pattern,.str x.type.path,bu x.a_,bu x.unique,.str x.default,.bool x.given,.bool x.fo,.bool x.df,.bool x.fixed,.int .i64 x.min,.int .i64 x.max,cZ x.when,cZ x.jy,aB x.aa]:=by rw[ax]
theorem az.Kx{x y:az}(h:y∈x.aa):aw y < aw x:=by
 have a:=bj h;cases x;simp only[az.mk.sizeOf_spec];dsimp only at a;omega
def aU(x:az):M D:=[.str x.aj,.str x.aS,.list 3 J (x.aa.map λy=>aU y)]
termination_by aw x
decreasing_by exact az.Kx (by assumption)
abbrev aE(l:M az):D:=.list 3 J (l.map aU)
theorem aN(x:az):aU x=[.str x.aj,.str x.aS,aE x.aa]:=by rw[aU]
theorem dx.Kx{x y:dx}(h:y∈x.aa):aw y < aw x:=by
 have a:=bj h;cases x;simp only[dx.mk.sizeOf_spec];dsimp only at a;omega
def i_(x:dx):M D:=[.int .i64 x.op,.str x.text,.list 3 J (x.aa.map λy=>i_ y)]
termination_by aw x
decreasing_by exact dx.Kx (by assumption)
abbrev cF(l:M dx):D:=.list 3 J (l.map i_)
theorem bk(x:dx):i_ x=[.int .i64 x.op,.str x.text,cF x.aa]:=by rw[i_]
theorem Ue{a:Type}(f:a->M D):∀{b:M a} {x:a},x∈b->ee (f x)<=oM (b.map f)
 |[],_,h=>by simp at h
 |y::ys,x,h=>by
  simp -implicitDefEqProofs only [aW,oM]
  rcases aL.1 h with rfl|h
  ·omega
  ·have:=Ue f h;omega
abbrev bK{a:Type}(f:a->M D)(l:M a):Nat:=l.length+oM (l.map f)
theorem cG{b:Type}(f:b->M D){l:M b}{x:b}(h:x∈l):ee (f x) < bK f l:=by
 have d:=Ue f h;have c:0 < l.length:=by cases l with|nil=>cases h|cons a l=>simp
 simp only[bK];omega
theorem er{a:Type}(f:a->M D)(x:a)(l:M a):bK f (x::l)=ee (f x)+bK f l+1:=by
 simp only[bK,aH,aW,oM];omega
theorem A5{a:Type}(f:a->M D)(l m:M a):bK f (l++m)=bK f l+bK f m:=by
 simp only[bK,bh,bN,Hh];omega
theorem Hj{a:Type}(f:a->M D)(l:M a)(i:Nat):bK f (l.take i)<=bK f l:=by
 have:=A5 f (l.take i) (l.drop i);rw[bI]at this;omega
theorem Mb(l:M z){s:z}(h:s∈l):s.size < bK fe l:=by
 have:=cG fe h;simp only[fe,ee,D.sz]at this;omega
theorem rn(x:gK):ee (ew x)=bK k9 x.ranges+bK fe x.names+x.pattern.size+x.path.size:=by
 simp only[ew,ee,D.sz,ay,bK];omega
theorem O7(x:mC):ee (pP x)=x.aj.size+x.aS.size:=by simp only[pP,ee,D.sz];omega
theorem xg(x:pN):ee (iO x)=x.aj.size+bK pP x.gu:=by simp only[iO,ee,D.sz,ay,bK];omega
theorem A4(x:nG):ee (ib x)=bK iO x.steps:=by simp only[ib,ee,D.sz,ay,bK];omega
theorem pn(x:dv):ee (cu x)=x.text.size+ee (ib x.path)+bK cu x.aa:=by simp only[bT,ib,ee,D.sz,ay,bK];omega
theorem dO(x:ah):ee (ax x)=x.aj.size+ee (ew x.type)+bK fe x.a_+bK fe x.unique+x.default.size+bK cu x.when+bK cu x.jy+bK ax x.aa:=by
 simp only[af,ew,ee,D.sz,ay,bK];omega
theorem fF(x:az):ee (aU x)=x.aj.size+x.aS.size+bK aU x.aa:=by simp only[aN,ee,D.sz,ay,bK];omega
section
def Bn(i:Nat):Nat->Nat->M SE
 |_,0=>[]
 |j,n+1=>.c i j::Bn i (j+1) n
abbrev Y(i:Nat):SE:=.v i
abbrev N(n:Int):SE:=.k (.int .i64 n)
abbrev U(n:Int):SE:=.k (.int .u8 n)
abbrev B(b:Bool):SE:=.k (.bool b)
abbrev L(k:Nat)(a:Bool):SE:=.k (.nil k a)
abbrev X(i j:Nat):SE:=.c i j
abbrev o_(o:PO)(es:M SE)(t:ST):ST:=.op [] o es t
abbrev p_(a:Gs)(t:ST):ST:=.op a .pl [] t
abbrev c1(t:ST):ST:=.cons t .nil
abbrev r_(i n:Nat):M SE:=Ho i n
abbrev t_(i:Nat)(o:PO)(es:M SE)(t:ST):ST:=.op [(.v i,I)] o es t
abbrev f_(i:Nat)(o:PO)(es:M SE)(t:ST):ST:=.op [(.v i,J)] o es t
abbrev d_(i:Nat)(a b:ST):ST:=.gd [(.v i,I)] a b
abbrev e_(i:Nat)(a b:ST):ST:=.gd [(.v i,J)] a b
abbrev L_(es:M SE):ST:=.leaf 0 es
abbrev M1(t:ST):ST:=.map [1] t
abbrev b_(a b:ST):ST:=.seq a (.cons b .nil)
abbrev k_(a b:ST):ST:=.cons a b
abbrev h_(a b:ST):ST:=.seq a b
abbrev an_(i j:Nat)(t:ST):ST:=.op [] .ite [.v i,.v j,.k (.bool J)] t
abbrev ZA(i j:Nat)(t:ST):ST:=.op [] .ite [.v i,.k (.bool I),.v j] t
abbrev pt_(i:Nat)(t:ST):ST:=.op [(.v i,I)] .pl [] t
abbrev Wy(i:Nat)(t:ST):ST:=.op [(.v i,J)] .pl [] t
abbrev z_(t:ST):ST:=.seq t (.cons (.leaf 0 [.v 0]) .nil)
abbrev c_(i:Nat)(es:M SE)(t:ST):ST:=.call i es (.cons t .nil)
abbrev xs_(i j n:Nat):M SE:=Bn i j n
abbrev E2:PO:=.bin .eql
abbrev N2:PO:=.bin .neq
abbrev L2:PO:=.bin .lss
abbrev G2:PO:=.bin .gtr
abbrev H2:PO:=.bin .geq
abbrev A2:PO:=.bin .add
abbrev S2:PO:=.bin .sub
abbrev zI(n:Int):SK:=.int .i64 n
abbrev zB(b:Bool):SK:=.bool b
abbrev zS(l:M UInt8):SK:=.str ⟨l.toArray⟩
abbrev zL(k:Nat)(a:Bool):SK:=.nil k a
abbrev R:=u (Nat×M D)
noncomputable def opT(r:u D)(G:Gf)(t:ST)(a:M D):R:=match r with
 |some x=>eV G t 0 (a++[x])
 |none=>O
def poT(o:PO):u (M D)->u D
 |some a=>aZ o a
 |none=>O
noncomputable def Zv(g:u Bool)(G:Gf)(o:PO)(es:M SE)(t:ST)(a:M D):R:=match g with
 |some I=>opT (poT o (iY a es)) G t a
 |some J=>eV G t 0 (a++[.bool J])
 |none=>O
noncomputable def Wo(g:u Bool)(G:Gf)(a b:ST)(c:M D):R:=match g with
 |some I=>eV G a 0 c
 |some J=>eV G b 0 c
 |none=>O
noncomputable def clR(r:R)(G:Gf)(b:ST)(a:M D):R:=match r with
 |some (j,ws)=>eV G b j (a++ws)
 |none=>O
noncomputable def clT(r:u (M D))(G:Gf)(i:Nat)(c:ST)(a:M D):R:=match r with
 |some b=>clR (G i b) G c a
 |none=>O
def lfT(j:Nat):u (M D)->R
 |some a=>Z (j,a)
 |none=>O
def mpT(f:M Nat):R->R
 |some (j,σ)=>(nth f j).map (·,σ)
 |none=>O
noncomputable def sqT(r:R)(G:Gf)(a:ST):R:=match r with
 |some (j,σ)=>eV G a j σ
 |none=>O
noncomputable def lB(G:Gf)(a:ST)(p:Nat×M D):u (Sg (Nat×M D) (Nat×M D)):=E5 (eV G a p.1 p.2)
noncomputable def lpT(r:u (M D))(G:Gf)(h:Nat)(b:ST):R:=match r with
 |some a=>cm (lB G b) (h,a)
 |none=>O
def gsT(w:Bool):u D->u Bool->u Bool
 |some (.bool b),Z c=>Z (if b=w then c else J)
 |_,_=>O
def elT(j:Nat):u D->u D
 |some x=>match elC x with
  |some a=>nth a j
  |none=>O
 |none=>O
def csT:u D->u (M D)->u (M D)
 |some x,Z xs=>Z (x::xs)
 |_,_=>O
section
variable (G:Gf) (ρ:M D)
theorem ah_(o:PO)(es:M SE)(t:ST)(j:Nat):eV G (.op [] o es t) j ρ=opT (poT o (iY ρ es)) G t ρ:=by
 simp only[eV,jq,opT,poT];cases iY ρ es<;>rfl
theorem ah9(p:SE×Bool)(a:Gs)(o:PO)(es:M SE)(t:ST)(j:Nat):eV G (.op (p::a) o es t) j ρ=Zv (jq ρ (p::a)) G o es t ρ:=by
 simp only[eV,Zv,opT,poT];generalize jq ρ (p::a)=g;rcases g with _|_|_
 ·rfl
 ·rfl
 ·cases iY ρ es<;>rfl
theorem ah5(c:Gs)(a b:ST)(j:Nat):eV G (.gd c a b) j ρ=Wo (jq ρ c) G a b ρ:=(rfl)
theorem ah3(i:Nat)(es:M SE)(a:ST)(j:Nat):eV G (.call i es a) j ρ=clT (iY ρ es) G i a ρ:=(rfl)
theorem ah6(j:Nat)(es:M SE)(k:Nat):eV G (.leaf j es) k ρ=lfT j (iY ρ es):=(rfl)
theorem ah8(f:M Nat)(t:ST)(k:Nat):eV G (.map f t) k ρ=mpT f (eV G t 0 ρ):=(rfl)
theorem aia(t a:ST)(k:Nat):eV G (.seq t a) k ρ=sqT (eV G t 0 ρ) G a:=(rfl)
theorem ah7(h:Nat)(es:M SE)(a:ST)(k:Nat):eV G (.loop h es a) k ρ=lpT (iY ρ es) G h a:=(rfl)
theorem ah1(a b:ST)(k:Nat):eV G (.both a b) k ρ=Im (eV G a 0 ρ) (eV G b 0 ρ):=(rfl)
theorem ah2(a b:ST):eV G (.cons a b) 0 ρ=eV G a 0 ρ:=(rfl)
theorem ah4(a b:ST)(j:Nat):eV G (.cons a b) (j+1) ρ=eV G b j ρ:=(rfl)
theorem aku(x:D)(t:ST):opT (Z x) G t ρ=eV G t 0 (ρ++[x]):=(rfl)
theorem akK(o:PO)(a:M D):poT o (Z a)=aZ o a:=(rfl)
theorem aj4(o:PO)(es:M SE)(t:ST):Zv (Z I) G o es t ρ=opT (poT o (iY ρ es)) G t ρ:=(rfl)
theorem aj3(o:PO)(es:M SE)(t:ST):Zv (Z J) G o es t ρ=eV G t 0 (ρ++[.bool J]):=(rfl)
theorem air(a b:ST):Wo (Z I) G a b ρ=eV G a 0 ρ:=(rfl)
theorem aiq(a b:ST):Wo (Z J) G a b ρ=eV G b 0 ρ:=(rfl)
theorem ahV(a:M D)(i:Nat)(b:ST):clT (Z a) G i b ρ=clR (G i a) G b ρ:=(rfl)
theorem ahU(j:Nat)(a:M D)(b:ST):clR (Z (j,a)) G b ρ=eV G b j (ρ++a):=(rfl)
theorem ajE(j:Nat)(a:M D):lfT j (Z a)=Z (j,a):=(rfl)
theorem ajR(f:M Nat)(j:Nat)(a:M D):mpT f (Z (j,a))=(nth f j).map (·,a):=(rfl)
theorem alD(j:Nat)(a:M D)(b:ST):sqT (Z (j,a)) G b=eV G b j a:=(rfl)
theorem ajH(a:M D)(h:Nat)(b:ST):lpT (Z a) G h b=cm (lB G b) (h,a):=(rfl)
theorem d_v(i:Nat):SE.d ρ (.v i)=nth ρ i:=(rfl)
theorem d_k(x:SK):SE.d ρ (.k x)=Z x.d:=(rfl)
theorem d_c(i j:Nat):SE.d ρ (.c i j)=elT j (nth ρ i):=by
 simp only[SE.d,elT];cases nth ρ i<;>rfl
theorem adC(j k:Nat)(b:Bool)(a:M D):elT j (Z (.list k b [a]))=nth a j:=(rfl)
theorem adA:iY ρ []=Z []:=(rfl)
theorem XB(e:SE)(es:M SE):iY ρ (e::es)=csT (e.d ρ) (iY ρ es):=by
 simp only[iY];cases e.d ρ with
 |none=>rfl
 |some x=>cases iY ρ es<;>rfl
theorem ahY(x:D)(a:M D):csT (Z x) (Z a)=Z (x::a):=(rfl)
theorem bG(b:ST)(h:Nat)(a:M D):lB G b (h,a)=E5 (eV G b h a):=(rfl)
theorem gO(j:Nat)(a:M D):E5 (Z (j,a))=Z (if j % 2=0 then .go (j / 2,a) else .out (j / 2,a)):=(rfl)
end
theorem C7(op:BinOp)(k:IntKind)(a b:Int):aZ (.bin op) [.int k a,.int k b]=W8 op k a b:=by
 simp only[aZ,Ux,if_true];cases W8 op k a b<;>rfl
theorem ZD(op:BinOp)(a b:z):aZ (.bin op) [.str a,.str b]=W9 op a b:=by
 simp only[aZ,Ux];cases W9 op a b<;>rfl
theorem akL(op:BinOp)(a b:Bool):aZ (.Wi op) [.bool a,.bool b]=W7 op a b:=(rfl)
theorem afD(b:Bool):aZ .not [.bool b]=Z (.bool (!b)):=(rfl)
theorem acx(k b:IntKind)(a:Int):aZ (.conv k) [.int b a]=Z (.int k (k.wrap a)):=(rfl)
theorem afC(k:IntKind)(a:Int):aZ .neg [.int k a]=Z (.int k (k.wrap (-a))):=(rfl)
theorem afA(k:Nat)(a:Bool)(es:M (M D)):aZ .len [.list k a es]=Z (.int .i64 es.length):=(rfl)
theorem afE(t:z):aZ .sln [.str t]=Z (.int .i64 t.size):=(rfl)
theorem acB(b y:Bool):aZ .ite [.bool b,.bool I,.bool y]=Z (.bool (b ||y)):=by cases b<;>rfl
theorem acA(b y:Bool):aZ .ite [.bool b,.bool y,.bool J]=Z (.bool (b && y)):=by cases b<;>rfl
theorem afx(o k:Nat)(b:Bool)(a:M D):aZ (.cel o) [.list k b [a]]=nth a o:=(rfl)
theorem zb(n k:Nat)(b:Bool)(a:M D):aZ (.has n) [.list k b [a]]=if n<=a.length then Z (.bool J) else O:=(rfl)
theorem akM(k:Nat)(a:Bool)(es:M (M D))(n:Int)(h:0<=n):aZ (.el k) [.list k a es,.int .i64 n]=(nth es n.toNat).map λe=>.list 0 J [e]:=by simp only[aZ,h,and_self,if_true]
theorem mu(k:Nat)(a:Bool)(es:M (M D))(n:Nat):aZ (.el k) [.list k a es,.int .i64 (n:Int)]=(nth es n).map λe=>.list 0 J [e]:=by
 rw[akM k a es n (by omega),bW]
theorem afy(k:Nat)(a:Bool)(es:M (M D)):aZ (.el k) [.list k a es,.int .i64 0]=(nth es 0).map λe=>.list 0 J [e]:=mu k a es 0
theorem jd(k:Nat)(a:Bool)(es:M (M D))(n:Nat)(h:n < es.length):aZ .Wj [.list k a es,.int .i64 (n:Int)]=Z (.bool J):=by
 simp only[aZ,bW];rw[if_pos ⟨by omega,h⟩]
theorem fH(t:z)(n:Nat)(h:n < t.size):aZ .Z3 [.str t,.int .i64 (n:Int)]=Z (.int .u8 (eB t n)):=by
 simp only[aZ,bW];rw[if_pos ⟨by omega,h⟩]
theorem ZE:aZ .pl []=Z (.bool J):=(rfl)
theorem Rc(k a:Nat)(c:Bool)(es b:M (M D))(h:(es.length+b.length) * a<=room/\es.length+b.length<=maxLen):aZ (.app k a) [.list k c es,.list k c b]=Z (.list k c (es++b)):=by
 simp only[aZ,h.1,h.2,and_self,if_true]
theorem afB(a b:Int):aZ .max [.int .i64 a,.int .i64 b]=Z (.int .i64 (if a < b then b else a)):=(rfl)
theorem xI(k:Nat)(a:Bool):aZ (.sV k a) []=Z (.list k a []):=by
 simp only[aZ,aJ,Nat.zero_mod,if_true,Nat.zero_div,chunk];simp
theorem agK(k:IntKind)(n:Int):SK.d (.int k n)=.int k n:=(rfl)
theorem acY(b:Bool):SK.d (.bool b)=.bool b:=(rfl)
theorem agM(t:z):SK.d (.str t)=.str t:=(rfl)
theorem agL(k:Nat)(a:Bool):SK.d (.nil k a)=.list k a []:=(rfl)
theorem ait(a:M D)(e:SE)(w:Bool)(b:Gs)(c:Bool)(f:jq a b=Z c):jq a ((e,w)::b)=gsT w (e.d a) (Z c):=by
 simp only[jq];cases e.d a with
 |none=>rfl
 |some x=>cases x<;>simp only[gsT,f]<;>split<;>rfl
theorem aeD(a:M D)(e:SE)(w:Bool):jq a [(e,w)]=gsT w (e.d a) (Z I):=ait a e w [] I rfl
theorem aiv(b:Bool):gsT I (Z (.bool b)) (Z I)=Z b:=by cases b<;>rfl
theorem aiu(b:Bool):gsT J (Z (.bool b)) (Z I)=Z (!b):=by cases b<;>rfl
attribute [go_sem] C7 ZD akL afD acx afC afA afE acB acA afx zb mu afy ZE afB xI agK acY agM agL aeD aiv aiu
attribute [go_sem] ah_ ah9 ah5 ah3 ah6 ah8 aia ah7 ah1 ah2 ah4 aku akK aj4 aj3 air aiq ahV ahU ajE ajR alD ajH d_v d_k d_c adC adA XB ahY PZ
attribute [go_sem] Bn
attribute [go_sem] bF Nat.reduceMod Nat.reduceDiv aA reduceIte Int.reduceEq Int.reduceLT Int.reduceLE Int.reduceAdd Int.reduceSub Int.reduceNeg
end
end Go.Proofs.YtnnjajingjfjiaaGreatDoor
