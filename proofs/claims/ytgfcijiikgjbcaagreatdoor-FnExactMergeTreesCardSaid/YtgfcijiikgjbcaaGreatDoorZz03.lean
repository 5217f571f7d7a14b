/- Part of the proof: a machine over plain data, its proof, the functions of the program run on symbols, what they answer. Condition: none. -/
import Derived.Test.YtgfcijiikgjbcaaGreatDoorZz02
set_option linter.unusedVariables false
set_option linter.unusedSimpArgs false
open Bool renaming and_eq_true->ai,false_eq_true->aD,not_eq_true'->ck,false_and->cM,true_and->cU,false_ne_true->da,or_eq_true->df,eq_false_iff->eg,and_true->gm,false_or->gG,and_assoc->iE,and_self->jr,and_false->kH,or_true->la,true->I,false->J
open Int renaming toNat_natCast->cd,reduceLE->dF,reduceLT->dG
open List renaming cons_append->au,nil_append->av,length_map->aA,length_cons->aG,mem_cons->aI,append_nil->aJ,length_nil->aP,mem_append->aT,replicate->aY,map_cons->aZ,length_append->a_,sizeOf_lt_of_mem->ba,getElem?_eq_some_iff->bh,length_take->bj,take_length->bo,drop_zero->br,all_eq_true->bz,append_assoc->bB,take_append_drop->bD,drop_length->bJ,mem_cons_self->bQ,mem_cons_of_mem->bT,map_append->cp,range->cu,nodup_cons->cx,all_cons->cV,mem_singleton->db,take_succ_cons->dy,length_drop->dK,getElem?_drop->fK,any_eq_true->kI,mem_filter->nn,drop_drop->oy,take_left->oA,drop_eq_getElem_cons->sQ,drop_left->yj
open List.cons renaming injEq->bY
open Nat renaming le_refl->az,le_trans->aH,reduceEqDiff->aN,zero_add->bu,reduceAdd->bM,add_assoc->cO,add_zero->dx,blt->gh,ble->nP,blt_eq->nR,zero_le->nU
open Option renaming map_eq_some_iff->aj,map_some->aQ,isSome_iff_exists->cy,bind_some->dY,getD_some->ku,some->Z,none->O
open Option.some renaming injEq->aa,inj->iF
open Prod.mk renaming injEq->aC
open SizeOf renaming sizeOf->aw
open Decidable renaming decide->Z'
namespace Go.Proofs.YtgfcijiikgjbcaaGreatDoor
section
def SC.cells:SC->u (M SB)
 | .b x=>Z [x]
 | .agg xs=>Z xs
 |_=>O
def SB.cell:SB->Bool
 | .any=>J
 |_=>I
def aa0{a:Type}(l:M a)(o:Nat)(n:M a):M a:=l.take o++n++l.drop (o+n.length)
def uQ:C->u SB
 | .d (.int k n)=>Z (.d (.k (.int k n)))
 | .d (.bool b)=>Z (.d (.k (.bool b)))
 | .d (.str t)=>Z (.d (.k (.str t)))
 | .nil k a=>Z (.nil k a)
 |_=>O
def CS(S:SS)(d:Gs)(a:M SB):M (Nat×Nat×KX)->u (M SB)
 |[]=>Z a
 |(o,n,x)::e=>match fZ S d x with
  |some c=>match c.cells with
   |some b=>if b.length=n/\o+n<=a.length/\b.all SB.cell=I then CS S d (aa0 a o b) e else O
   |none=>O
  |none=>O
def Cq(i o:Nat):Nat->M SB
 |0=>[]
 |n+1=>.d (.c i o)::Cq i (o+1) n
def vN(n:Nat):SC:=.b (.d (.v n))
def Mq(n:Nat)(o:PO):M (u SE)->u (Bs×SC)
 |[Z a]=>Z ([(o,[a])],vN n)
 |[Z a,Z b]=>Z ([(o,[a,b])],vN n)
 |[Z a,Z b,Z c]=>Z ([(o,[a,b,c])],vN n)
 |_=>O
def uL(S:SS)(a:Gs):u KX->u SE
 |none=>Z (.k (.int .i64 0))
 |some x=>sD (fZ S a x)
def aa7(S:SS)(a:Gs)(n:Nat):KO->u (Bs×SC)
 | .mv x=>(fZ S a x).map λc=>([],c)
 | .pick c x y=>match sD (fZ S a c) with
  |some e=>if (e,I)∈a then (fZ S a x).map λc=>([],c) else if (e,J)∈a then (fZ S a y).map λc=>([],c)
   else Mq n .ite [Z e,sD (fZ S ((e,I)::a) x),sD (fZ S ((e,J)::a) y)]
  |none=>O
 | .build t w=>match gH uQ t with
  |some s=>(CS S a s w).map λl=>([],.agg l)
  |none=>O
 | .ld m x=>match fZ S a x with
  |some (.ptr b o)=>match look S.bx b with
   |some f=>if m=0 then (nth f o).map λy=>([],.b y) else if o+m<=f.length then Z ([],.agg ((f.drop o).take m)) else O
   |none=>O
  |some (.ub i o)=>if m=0 then Z ([(.cel o,[.v i])],vN n) else Z ([(.has (o+m),[.v i])],.agg (Cq i o m))
  |some (.pj r k i o)=>match look S.rw r with
   |some row=>if row.k=k then (if m=0 then Z ([(.UY k o 1 row.deep,[row.e,i]),(.cel o,[.v n])],vN (n+1)) else Z ([(.UY k o m row.deep,[row.e,i])],.agg (Cq n o m))) else O
   |none=>O
  |_=>O
 | .fa o x=>match fZ S a x with
  |some (.ptr b p)=>Z ([],.ptr b (p+o))
  |some (.ub i p)=>Z ([],.ub i (p+o))
  |some (.pj r k i p)=>Z ([],.pj r k i (p+o))
  |_=>O
 | .ia k x i=>match fZ S a x,sD (fZ S a i) with
  |some (.b (.d e)),Z j=>Z ([(.el k,[e,j])],.ub n 0)
  |some (.b (.ref r)),Z j=>match look S.rw r with
   |some row=>if row.k=k then Z ([(.TJ,[row.e,j])],.pj r k j 0) else O
   |none=>O
  |_,_=>O
 | .Xp x i=>Mq n .Xp [sD (fZ S a x),sD (fZ S a i)]
 | .bin op x y=>Mq n (.bin op) [sD (fZ S a x),sD (fZ S a y)]
 | .TI op x y=>Mq n (.TI op) [sD (fZ S a x),sD (fZ S a y)]
 | .not x=>Mq n .not [sD (fZ S a x)]
 | .neg x=>Mq n .neg [sD (fZ S a x)]
 | .conv k x=>Mq n (.conv k) [sD (fZ S a x)]
 | .len x=>match fZ S a x with
  |some (.b (.d e))=>Z ([(.len,[e])],vN n)
  |some (.b (.nil _ _))=>Z ([],.b (.d (.k (.int .i64 0))))
  |some (.b (.ref r))=>match look S.rw r with
   |some row=>Z ([(.len,[row.e])],vN n)
   |none=>O
  |_=>O
 | .sln x=>Mq n .sln [sD (fZ S a x)]
 | .min x y=>Mq n .min [sD (fZ S a x),sD (fZ S a y)]
 | .max x y=>Mq n .max [sD (fZ S a x),sD (fZ S a y)]
 | .ext x i=>match fZ S a x with
  |some (.ri f)=>match nth f i with
   |some (.inl y)=>Z ([],.b y)
   |some (.inr l)=>Z ([],.agg l)
   |none=>O
  |_=>O
 | .slc x q=>Mq n (.cut I) [sD (fZ S a x),Z (.k (.int .i64 0)),sD (fZ S a q)]
 | .Ti x g q=>match q with
  |none=>Mq n (.Ti J) [sD (fZ S a x),uL S a g]
  |some h=>Mq n (.Ti I) [sD (fZ S a x),uL S a g,sD (fZ S a h)]
 | .zZ k x g q=>match q with
  |none=>Mq n (.zZ k J) [sD (fZ S a x),uL S a g]
  |some h=>Mq n (.zZ k I) [sD (fZ S a x),uL S a g,sD (fZ S a h)]
 | .nck x=>match fZ S a x with
  |some (.ptr b o)=>Z ([],.ptr b o)
  |some (.ub i o)=>Z ([],.ub i o)
  |some (.pj r k i o)=>Z ([],.pj r k i o)
  |_=>O
 | .Nu x=>match fZ S a x with
  |some (.b (.ref r))=>match look S.rw r with
   |some row=>if row.k=1 then Z ([(.Nu,[row.e])],vN n) else O
   |none=>O
  |_=>O
 |_=>O
section
variable {ρ iY:M D} {S:SS} {s:St} {gs:Gs} {bs:Bs} {c:SC}
theorem eQ.nth:∀{xs:M SB} {b:M C} {i:Nat} {x:SB},eQ ρ xs b->nth xs i=Z x->∃c,nth b i=Z c/\kv ρ x c
 |_::_,_,0,_,⟨c,_,a,e,_⟩,h=>by cases h;subst a;exact⟨c,rfl,e⟩
 |_::xs,_,i+1,_,⟨_,b,a,_,d⟩,h=>by subst a;exact eQ.nth (xs:=xs) (i:=i) d h
 |[],_,_,_,_,h=>by cases h
theorem eQ.len:∀{a:M SB} {b:M C},eQ ρ a b->b.length=a.length
 |[],_,h=>by simp only[eQ]at h;subst h;rfl
 |_::_,_,⟨_,_,e,_,d⟩=>by subst e;simp[eQ.len d]
theorem eQ.drop:∀(n:Nat) {a:M SB} {b:M C},eQ ρ a b->eQ ρ (a.drop n) (b.drop n)
 |0,_,_,h=>h
 |_+1,[],_,h=>by simp only[eQ]at h;subst h;rfl
 |n+1,_::_,_,⟨_,_,e,_,d⟩=>by subst e;exact eQ.drop n d
theorem eQ.take:∀(n:Nat) {a:M SB} {b:M C},eQ ρ a b->eQ ρ (a.take n) (b.take n)
 |0,_,_,_=>rfl
 |_+1,[],_,h=>by simp only[eQ]at h;subst h;rfl
 |n+1,_::_,_,⟨c,_,f,e,d⟩=>by subst f;exact⟨c,_,rfl,e,eQ.take n d⟩
theorem eQ.app:∀{b ys:M SB} {e d:M C},eQ ρ b e->eQ ρ ys d->eQ ρ (b++ys) (e++d)
 |[],_,_,_,h,a=>by simp only[eQ]at h;subst h;exact a
 |_::_,_,_,_,⟨c,_,i,g,f⟩,a=>by subst i;exact⟨c,_,rfl,g,eQ.app f a⟩
theorem eQ.xt(o:Nat){a ys:M SB}{e d:M C}(h:eQ ρ a e)(b:eQ ρ ys d):eQ ρ (aa0 a o ys) (gU e o d):=by
 unfold aa0 gU;rw[b.len];exact ((h.take o).app b).app (h.drop _)
theorem kv.cell{x:SB}{c:C}(h:kv ρ x c)(a:x.cell=I):c.cell=I:=by
 cases x with
 |d e=>obtain⟨y,_,rfl⟩:=h;rfl
 |nil k b=>simp only[kv]at h;subst h;rfl
 |ref r=>simp only[kv]at h;subst h;rfl
 |any=>cases a
theorem eQ.cell:∀{a:M SB} {b:M C},eQ ρ a b->a.all SB.cell=I->b.all C.cell=I
 |[],_,h,_=>by simp only[eQ]at h;subst h;rfl
 |_::_,_,⟨_,_,f,e,d⟩,h=>by
  subst f;simp only[cV,ai]at h ⊢;exact⟨e.cell h.1,eQ.cell d h.2⟩
theorem lN.cells{x:SC}{c:C}{a:M SB}(h:lN ρ x c)(d:x.cells=Z a)(e:a.all SB.cell=I):eQ ρ a c.cells:=by
 cases x with
 |b y=>
  cases d;simp only[cV,List.all_nil,gm]at e;refine⟨c,[],?_,h,rfl⟩;have:=kv.cell h e;cases c<;>simp_all[C.cell,C.cells]
 |agg ys=>
  cases d;obtain⟨g,rfl,f⟩:=h;exact f
 |_=>cases d
theorem Nz{a:C}{x:SB}(h:uQ a=Z x):kv ρ x a:=by
 unfold uQ at h
 split at h<;>first|(cases h;exact⟨_,rfl,rfl⟩)|(cases h;rfl)|cases h
theorem xz:∀{b:M C} {d:M SB},gH uQ b=Z d->eQ ρ d b
 |[],_,h=>by simp only[gH,aa]at h;subst h;rfl
 |a::b,d,h=>by
  simp only[gH]at h
  split at h
  ·rename_i y e;simp only[aj]at h;obtain⟨ys,f,rfl⟩:=h;exact⟨a,b,rfl,Nz e,xz f⟩
  ·cases h
theorem BZ(h:Rel ρ S s)(k:jt ρ gs=Z I):∀(e:M (Nat×Nat×KX)) {d l:M SB} {b:M C},CS S gs d e=Z l->eQ ρ d b->∃f,BD b (e.map λp=>(p.1,p.2.1,(gj s p.2.2).cells))=Z f/\eQ ρ l f
 |[],d,l,b,a,g=>by cases a;exact⟨b,rfl,g⟩
 |(o,n,x)::e,d,l,b,a,g=>by
  simp only[CS]at a
  split at a
  ·rename_i c r
   split at a
   ·rename_i ys q
    split at a
    ·rename_i j;obtain⟨j,w,m⟩:=j;have i:=(cT h k r).cells q m;obtain⟨f,v,t⟩:=BZ h k e a (g.xt o i);refine⟨f,?_,t⟩;simp only[aZ,BD];rw[if_pos ⟨by rw[i.len,j],by rw[g.len];exact w,i.cell m⟩];exact v
    ·cases a
   ·cases a
  ·cases a
theorem uN{i:Nat}{x:D}{a:M D}(b:nth ρ i=Z x)(f:elC x=Z a):∀(n o:Nat),o+n<=a.length->eQ ρ (Cq i o n) (((a.drop o).take n).map .d)
 |0,o,_=>rfl
 |n+1,o,h=>by
  have e:o < a.length:=by omega
  rw[sQ e,dy,aZ];exact⟨_,_,rfl,⟨a[o],by simp only[SE.d,b,f,eh];simp[e],rfl⟩,uN b f n (o+1) (by omega)⟩
theorem gT{n:Nat}{o:PO}{l:M (u SE)}(h:Mq n o l=Z (bs,c))(e:n=ρ.length)(f:kV ρ bs=Z iY):∃es a x,l=es.map Z/\jc ρ es=Z a/\aU o a=Z x/\iY=ρ++[x]/\lN iY c (.d x):=by
 have fin:∀{es:M SE},bs=[(o,es)]->c=vN n->l=es.map Z->∃es a x,l=es.map Z/\jc ρ es=Z a/\aU o a=Z x/\iY=ρ++[x]/\lN iY c (.d x):=by
  intro es m k j;subst m k;obtain⟨a,x,i,g,b⟩:=eO f;refine⟨es,a,x,j,i,g,b,?_⟩;subst b e;exact⟨x,jX ρ x [],rfl⟩
 unfold Mq at h
 split at h
 ·simp only[aa,aC]at h;exact fin h.1.symm h.2.symm rfl
 ·simp only[aa,aC]at h;exact fin h.1.symm h.2.symm rfl
 ·simp only[aa,aC]at h;exact fin h.1.symm h.2.symm rfl
 ·cases h
theorem opD(h:Rel ρ S s)(g:jt ρ gs=Z I):∀(b:M KX) {es:M SE} {ys:M D},b.map (λx=>sD (fZ S gs x))=es.map Z->jc ρ es=Z ys->b.map (gj s)=ys.map .d
 |[],es,ys,a,f=>by
  have:es=[]:=by simpa using a.symm
  subst this;cases f;rfl
 |x::b,[],ys,a,f=>by simp at a
 |x::b,e::es,ys,a,f=>by
  simp only[aZ,bY]at a;obtain⟨y,m,l,k,rfl⟩:=dJ f;obtain⟨n,i,j⟩:=l7 h g a.1;rw[l]at i;cases i;simp only[aZ,j,opD h g b a.2 k]
theorem aar(h:Rel ρ S s)(g:jt ρ gs=Z I){x:KX}{es:M SE}{e:M D}(f:[sD (fZ S gs x)]=es.map Z)(i:jc ρ es=Z e):∃a,e=[a]/\gj s x=.d a:=by
 have:=opD h g [x] f i;rcases e with _|⟨a,_|⟨b,l⟩⟩
 ·simp at this
 ·simp_all
 ·simp at this
theorem X4(h:Rel ρ S s)(g:jt ρ gs=Z I){x y:KX}{es:M SE}{e:M D}(f:[sD (fZ S gs x),sD (fZ S gs y)]=es.map Z)(i:jc ρ es=Z e):∃a b,e=[a,b]/\gj s x=.d a/\gj s y=.d b:=by
 have:=opD h g [x,y] f i;rcases e with _|⟨a,_|⟨b,_|⟨c,l⟩⟩⟩
 ·simp at this
 ·simp at this
 ·simp_all
 ·simp at this
theorem JY(h:Rel ρ S s)(l:jt ρ gs=Z I){lo:u KX}{e:SE}{x:D}{a:Nat}(f:uL S gs lo=Z e)(g:e.d ρ=Z x)(hd:dI x=Z a):∀b,(lo=O->b=0)->sL s lo b=Z a:=by
 intro b j;cases lo with
 |none=>
  simp only[uL,aa]at f;subst f;cases g;simp only[SK.d,dI]at hd;simp only[sL,j rfl]
  simpa using hd
 |some y=>
  obtain⟨v,i,n⟩:=l7 h l f;rw[g]at i;cases i;simp only[sL,n];cases x with
  |int k m=>cases k<;>simp_all[dI]
  |_=>simp[dI]at hd
theorem lx{es:M SE}{a:M D}(h:jc ρ es=Z a):a.length=es.length:=by
 induction es generalizing a with
 |nil=>cases h;rfl
 |cons e es b=>
  obtain⟨x,ys,_,d,rfl⟩:=dJ h;simp[b d]
theorem Fw(h:Rel ρ S s)(G:jt ρ gs=Z I){n:Nat}(Q:n=ρ.length){o:KO}(g:aa7 S gs n o=Z (bs,c))(H:kV ρ bs=Z iY):∃v,jj s o=Z v/\lN iY c v:=by
 unfold aa7 at g
 split at g
 ·
  simp only[aj,aC]at g;obtain⟨c',A,rfl,rfl⟩:=g;cases H;exact⟨_,rfl,cT h G A⟩
 ·
  split at g
  ·rename_i e he;obtain⟨cv,L,U⟩:=l7 h G he
   split at g
   ·rename_i V;have:=oc G _ V;rw[L]at this;cases this;simp only[aj,aC]at g;obtain⟨c',A,rfl,rfl⟩:=g;cases H;exact⟨_,by simp only[jj,U,if_true],cT h G A⟩
   ·split at g
    ·rename_i V;have:=oc G _ V;rw[L]at this;cases this;simp only[aj,aC]at g;obtain⟨c',A,rfl,rfl⟩:=g;cases H;exact⟨_,by simp only[jj,U,aD,if_false],cT h G A⟩
    ·obtain⟨es,P,x,A,F,w,R,B⟩:=gT g Q H;rcases es with _|⟨e0,_|⟨e1,_|⟨e2,_|⟨e3,l⟩⟩⟩⟩<;>simp at A
     obtain⟨rfl,K,X⟩:=A;obtain⟨c0,ys,W,Y,rfl⟩:=dJ F;obtain⟨a,zs,g3,g4,rfl⟩:=dJ Y;obtain⟨b,g5,rfl⟩:=fk g4;rw[W]at L;cases L;cases cv with
     |bool t=>
      simp only[aU,aa]at w;cases t with
      |true=>
       have hg':jt ρ ((e,I)::gs)=Z I:=by simp only[jt,W,if_true];exact G
       obtain⟨a',q1,q2⟩:=l7 h hg' K;rw[g3]at q1;cases q1;refine⟨_,by simp only[jj,U,if_true];rfl,?_⟩;rw[q2];simp only[if_true]at w;rw[w];exact B
      |false=>
       have hg':jt ρ ((e,J)::gs)=Z I:=by simp only[jt,W,if_true];exact G
       obtain⟨b',q1,q2⟩:=l7 h hg' X;rw[g5]at q1;cases q1;refine⟨_,by simp only[jj,U];rfl,?_⟩;simp only[aD,if_false]at w ⊢;rw[q2,w];exact B
     |int k m=>simp[aU]at w
     |str t=>simp[aU]at w
     |list k fl es=>simp[aU]at w
  ·cases g
 ·
  split at g
  ·rename_i zs' hz;simp only[aj,aC]at g;obtain⟨l,A,rfl,rfl⟩:=g;cases H;obtain⟨jV,F,w⟩:=BZ h G _ A (xz hz);exact⟨_,by simp only[jj,F,aQ],⟨jV,rfl,w⟩⟩
  ·cases g
 ·
  rename_i m x
  split at g
  ·rename_i b o K;have N:=cT h G K;simp only[lN]at N
   split at g
   ·rename_i ys hl;obtain⟨cs,A,F⟩:=h.bx b ys hl
    split at g
    ·rename_i V;simp only[aj,aC]at g;obtain⟨y,w,rfl,rfl⟩:=g;cases H;obtain⟨cv,R,B⟩:=F.nth w;exact⟨cv,by simp only[jj,N,A,if_pos V,R],B⟩
    ·rename_i V
     split at g
     ·rename_i hle;simp only[aa,aC]at g;obtain⟨rfl,rfl⟩:=g;cases H;exact⟨_,by simp only[jj,N,A,if_neg V];rw[if_pos (by rw[F.len];exact hle)],⟨_,rfl,(F.drop o).take m⟩⟩
     ·cases g
   ·cases g
  ·rename_i i o K;obtain⟨el,cs,A,F,w⟩:=cT h G K
   split at g
   ·rename_i V;simp only[aa,aC]at g;obtain⟨rfl,rfl⟩:=g;obtain⟨P,y,R,B,rfl⟩:=eO H;obtain⟨a,L,rfl⟩:=fk R;simp only[SE.d,A,aa]at L;subst L;simp only[aU,F]at B;refine⟨.d y,?_,⟨y,by subst Q;exact jX ρ y [],rfl⟩⟩;simp only[jj,w,if_pos V];rw[eh,fK,dx,<- eh,B];rfl
   ·rename_i V;simp only[aa,aC]at g;obtain⟨rfl,rfl⟩:=g;obtain⟨P,y,R,B,rfl⟩:=eO H;obtain⟨a,L,rfl⟩:=fk R;simp only[SE.d,A,aa]at L;subst L;simp only[aU,F]at B
    split at B
    ·rename_i hle;refine⟨_,?_,⟨_,rfl,(uN A F m o hle).mono _⟩⟩;simp only[jj,w,if_neg V];rw[if_pos (by rw[dK];omega)]
    ·cases B
  ·rename_i r k i o K;obtain⟨iv,A,F⟩:=cT h G K
   split at g
   ·rename_i row hl;obtain⟨y,w,es,R,rfl⟩:=h.rw r row hl
    split at g
    ·rename_i hk;subst hk;have key:∀{q:Nat} {el:D},aU (.UY row.k o q row.deep) [.list row.k row.fl es,.int .i64 iv]=Z el->∃e,nth es iv.toNat=Z e/\o+q<=row.k/\o+q<=e.length/\(dW ((e.drop o).take q) ||!row.deep)=I/\el=.list 0 J [e]:=by
      intro q el he;simp only[aU]at he
      split at he
      ·rename_i e ic
       split at he
       ·rename_i T;cases he;exact⟨e,ic,T.2.1,T.2.2.1,T.2.2.2,rfl⟩
       ·cases he
      ·cases he
     split at g
     ·rename_i V;simp only[aa,aC]at g;obtain⟨rfl,rfl⟩:=g;simp only[kV]at H
      split at H
      ·rename_i P FT
       split at H
       ·rename_i el AA;obtain⟨f,zs,q1,q2,rfl⟩:=dJ FT;obtain⟨z2,q3,rfl⟩:=fk q2;rw[R]at q1;cases q1;rw[A]at q3;cases q3;obtain⟨e,e1,e2,e3,e4,rfl⟩:=key AA
        split at H
        ·rename_i Kh aj8
         split at H
         ·rename_i v hv;cases H;obtain⟨w0,w1,rfl⟩:=fk aj8;simp only[SE.d,Q,jX,aa]at w1;subst w1;simp only[aU,elC]at hv;refine⟨.d v,?_,⟨v,by subst Q;have:=jX (ρ++[.list 0 J [e]]) v [];simpa [SE.d] using this,rfl⟩⟩;subst V;simp only[jj,F,w,e1];rw[if_pos ⟨trivial,by simpa using e2,by simpa using e4⟩,if_pos trivial,hv];rfl
         ·cases H
        ·cases H
       ·cases H
      ·cases H
     ·rename_i V;simp only[aa,aC]at g;obtain⟨rfl,rfl⟩:=g;obtain⟨P,el,FT,AA,rfl⟩:=eO H;obtain⟨f,zs,q1,q2,rfl⟩:=dJ FT;obtain⟨z2,q3,rfl⟩:=fk q2;rw[R]at q1;cases q1;rw[A]at q3;cases q3;obtain⟨e,e1,e2,e3,e4,rfl⟩:=key AA;have acB:Max.max m 1=m:=by omega
      refine⟨_,?_,⟨_,rfl,uN (x:=.list 0 J [e]) (by rw[Q];exact jX ρ _ []) rfl m o e3⟩⟩;simp only[jj,F,w,e1,acB];rw[if_pos ⟨trivial,e2,e4⟩,if_neg V]
    ·cases g
   ·cases g
  ·cases g
 ·
  split at g
  ·rename_i b p K;simp only[aa,aC]at g;obtain⟨rfl,rfl⟩:=g;cases H;have N:=cT h G K;simp only[lN]at N;exact⟨_,by simp only[jj,N],rfl⟩
  ·rename_i i p K;simp only[aa,aC]at g;obtain⟨rfl,rfl⟩:=g;cases H;obtain⟨x,cs,A,F,w⟩:=cT h G K;exact⟨_,by simp only[jj,w];rfl,x,cs,A,F,by rw[oy]⟩
  ·rename_i r k i p K;simp only[aa,aC]at g;obtain⟨rfl,rfl⟩:=g;cases H;obtain⟨iv,A,F⟩:=cT h G K;exact⟨_,by simp only[jj,F],iv,A,rfl⟩
  ·cases g
 ·
  split at g
  ·rename_i e j K hj;simp only[aa,aC]at g;obtain⟨rfl,rfl⟩:=g;obtain⟨P,y,R,B,rfl⟩:=eO H;obtain⟨a,zs,L,U,rfl⟩:=dJ R;obtain⟨b,h8,rfl⟩:=fk U;obtain⟨a',h9,Km⟩:=cT h G K;obtain⟨b',RQ,jQ⟩:=l7 h G hj;rw[L]at h9;cases h9;rw[h8]at RQ;cases RQ;cases a with
   |list k' fl es=>
    cases b with
    |int kk m=>
     cases kk<;>first|(simp[aU]at B;done)|skip
     simp only[aU]at B
     split at B
     ·rename_i T;simp only[aj]at B;obtain⟨el,q1,rfl⟩:=B;exact⟨_,by simp only[jj,Km,jQ];rw[if_pos T,q1];rfl,_,_,by rw[Q];exact jX ρ _ [],rfl,rfl⟩
     ·cases B
    |_=>simp[aU]at B
   |_=>cases b<;>simp[aU]at B
  ·rename_i r j K hj
   split at g
   ·rename_i row hl;obtain⟨y,A,es,F,rfl⟩:=h.rw r row hl
    split at g
    ·rename_i hk;simp only[aa,aC]at g;obtain⟨rfl,rfl⟩:=g;obtain⟨P,y,R,B,rfl⟩:=eO H;obtain⟨a,zs,L,U,rfl⟩:=dJ R;obtain⟨b,h8,rfl⟩:=fk U;obtain⟨b',RQ,jQ⟩:=l7 h G hj;rw[F]at L;cases L;rw[h8]at RQ;cases RQ;have N:=cT h G K;simp only[lN,kv]at N;cases b with
     |int kk m=>
      cases kk<;>first|(simp[aU]at B;done)|skip
      simp only[aU]at B
      split at B
      ·rename_i T;exact⟨_,by simp only[jj,N,jQ,A];rw[if_pos ⟨T.1,T.2,hk⟩],m,SE.mono _ h8,rfl⟩
      ·cases B
     |_=>simp[aU]at B
    ·cases g
   ·cases g
  ·cases g
 ·
  obtain⟨es,P,y,A,F,w,rfl,B⟩:=gT g Q H;obtain⟨a,b,rfl,L,U⟩:=X4 h G A F;refine⟨_,?_,B⟩;simp only[jj,L,U];cases a<;>cases b<;>first|(simp[aU]at w;done)|skip
  rename_i t k m;cases k<;>first|(simp[aU]at w;done)|skip
  simp only[aU]at w
  split at w
  ·rename_i T;cases w;simp only;rw[if_pos T]
  ·cases w
 ·
  obtain⟨es,P,y,A,F,w,rfl,B⟩:=gT g Q H;obtain⟨a,b,rfl,L,U⟩:=X4 h G A F;refine⟨_,?_,B⟩;simp only[jj,L,U];simp only[aU]at w;unfold asD at w
  split at w
  ·rename_i f hz;cases w;exact hz
  ·cases w
 ·
  obtain⟨es,P,y,A,F,w,rfl,B⟩:=gT g Q H;obtain⟨a,b,rfl,L,U⟩:=X4 h G A F;refine⟨_,?_,B⟩;simp only[jj,L,U];cases a<;>cases b<;>first|(simp[aU]at w;done)|skip
  simp only[aU]at w;simp only[w,aQ]
 ·
  obtain⟨es,P,y,A,F,w,rfl,B⟩:=gT g Q H;obtain⟨a,rfl,L⟩:=aar h G A F;refine⟨_,?_,B⟩;simp only[jj,L];cases a<;>first|(simp[aU]at w;done)|skip
  simp only[aU,aa]at w;simp only[w]
 ·
  obtain⟨es,P,y,A,F,w,rfl,B⟩:=gT g Q H;obtain⟨a,rfl,L⟩:=aar h G A F;refine⟨_,?_,B⟩;simp only[jj,L];cases a<;>first|(simp[aU]at w;done)|skip
  simp only[aU,aa]at w;simp only[w]
 ·
  obtain⟨es,P,y,A,F,w,rfl,B⟩:=gT g Q H;obtain⟨a,rfl,L⟩:=aar h G A F;refine⟨_,?_,B⟩;simp only[jj,L];cases a<;>first|(simp[aU]at w;done)|skip
  simp only[aU,aa]at w;simp only[w]
 ·
  split at g
  ·rename_i e K;simp only[aa,aC]at g;obtain⟨rfl,rfl⟩:=g;obtain⟨P,y,R,B,rfl⟩:=eO H;obtain⟨a,L,rfl⟩:=fk R;obtain⟨a',h9,Km⟩:=cT h G K;rw[L]at h9;cases h9;refine⟨.d y,?_,y,by subst Q;exact jX ρ y [],rfl⟩;simp only[jj,Km];cases a<;>first|(simp[aU]at B;done)|skip
   simp only[aU,aa]at B;simp only[B]
  ·rename_i k fl K;simp only[aa,aC]at g;obtain⟨rfl,rfl⟩:=g;cases H;have N:=cT h G K;simp only[lN,kv]at N;exact⟨_,by simp only[jj,N];rfl,_,rfl,rfl⟩
  ·rename_i r K
   split at g
   ·rename_i row hl;obtain⟨y,A,es,F,rfl⟩:=h.rw r row hl;simp only[aa,aC]at g;obtain⟨rfl,rfl⟩:=g;obtain⟨P,y,R,B,rfl⟩:=eO H;obtain⟨a,L,rfl⟩:=fk R;rw[F]at L;cases L;have N:=cT h G K;simp only[lN,kv]at N;simp only[aU,aa]at B;exact⟨.d y,by simp only[jj,N,A,<- B],y,by subst Q;exact jX ρ y [],rfl⟩
   ·cases g
  ·cases g
 ·
  obtain⟨es,P,y,A,F,w,rfl,B⟩:=gT g Q H;obtain⟨a,rfl,L⟩:=aar h G A F;refine⟨_,?_,B⟩;simp only[jj,L];cases a<;>first|(simp[aU]at w;done)|skip
  simp only[aU,aa]at w;simp only[w]
 ·
  obtain⟨es,P,y,A,F,w,rfl,B⟩:=gT g Q H;obtain⟨a,b,rfl,L,U⟩:=X4 h G A F;refine⟨_,?_,B⟩;simp only[jj,L,U];cases a<;>cases b<;>first|(simp[aU]at w;done)|skip
  rename_i k1 a k2 b;cases k1<;>cases k2<;>first|(simp[aU]at w;done)|skip
  simp only[aU,aa]at w;simp only[w]
 ·
  obtain⟨es,P,y,A,F,w,rfl,B⟩:=gT g Q H;obtain⟨a,b,rfl,L,U⟩:=X4 h G A F;refine⟨_,?_,B⟩;simp only[jj,L,U];cases a<;>cases b<;>first|(simp[aU]at w;done)|skip
  rename_i k1 a k2 b;cases k1<;>cases k2<;>first|(simp[aU]at w;done)|skip
  simp only[aU,aa]at w;simp only[w]
 ·
  split at g
  ·rename_i ys K;obtain⟨cs,A,F⟩:=cT h G K;have key:∀{ys:M (SB ⊕ M SB)} {cs:M C} (i:Nat),uF ρ ys cs->(∀y,nth ys i=Z (.inl y)->∃c,nth cs i=Z c/\kv ρ y c)/\(∀l,nth ys i=Z (.inr l)->∃ds,nth cs i=Z (.agg ds)/\eQ ρ l ds):=by
    intro ys
    induction ys with
    |nil=>intro cs i _;exact⟨λ_ h=>by simp[nth]at h,λ_ h=>by simp[nth]at h⟩
    |cons y ys ih=>
     intro cs i N;cases y with
     |inl y=>
      obtain⟨c,jV,rfl,W,Y⟩:=N;cases i with
      |zero=>exact⟨λf hz=>by cases hz;exact⟨c,rfl,W⟩,λl hl=>by cases hl⟩
      |succ i=>exact ih i Y
     |inr l=>
      obtain⟨ds,jV,rfl,W,Y⟩:=N;cases i with
      |zero=>exact⟨λf hz=>(by cases hz),λl hl=>by cases hl;exact⟨ds,rfl,W⟩⟩
      |succ i=>exact ih i Y
   split at g
   ·rename_i y X;simp only[aa,aC]at g;obtain⟨rfl,rfl⟩:=g;cases H;obtain⟨cv,w,R⟩:=(key _ F).1 y X;exact⟨cv,by simp only[jj,A,w],R⟩
   ·rename_i l X;simp only[aa,aC]at g;obtain⟨rfl,rfl⟩:=g;cases H;obtain⟨ds,w,R⟩:=(key _ F).2 l X;exact⟨_,by simp only[jj,A,w],⟨ds,rfl,R⟩⟩
   ·cases g
  ·cases g
 ·
  obtain⟨es,P,y,A,F,w,rfl,B⟩:=gT g Q H;rcases es with _|⟨e0,_|⟨e1,_|⟨e2,_|⟨e3,l⟩⟩⟩⟩<;>simp at A
  obtain⟨K,rfl,X⟩:=A;obtain⟨a,ys,W,Y,rfl⟩:=dJ F;obtain⟨f,zs,g3,g4,rfl⟩:=dJ Y;obtain⟨b,g5,rfl⟩:=fk g4;cases g3;obtain⟨a',q1,q2⟩:=l7 h G K;obtain⟨b',q3,q4⟩:=l7 h G X;rw[W]at q1;cases q1;rw[g5]at q3;cases q3;refine⟨_,?_,B⟩;cases a<;>first|(simp[aU]at w;done)|skip
  cases b<;>first|(simp[aU,dI,SK.d]at w;done)|skip
  rename_i k m;cases k<;>first|(simp[aU,dI,SK.d]at w;done)|skip
  simp only[aU,dI,SK.d,Int.le_refl,if_true,Int.toNat_zero]at w
  split at w
  ·rename_i a b ha lK;cases ha
   split at lK
   ·rename_i V;cases lK
    split at w
    ·rename_i T;cases w;simp only[jj,q2,q4];rw[if_pos ⟨V,T.2⟩,br]
    ·cases w
   ·cases lK
  ·cases w
 ·
  split at g
  ·obtain⟨es,P,y,A,F,w,rfl,B⟩:=gT g Q H;rcases es with _|⟨e0,_|⟨e1,_|⟨e2,l⟩⟩⟩<;>simp at A
   obtain⟨K,X⟩:=A;obtain⟨a,ys,W,Y,rfl⟩:=dJ F;obtain⟨f,g3,rfl⟩:=fk Y;obtain⟨a',q1,q2⟩:=l7 h G K;rw[W]at q1;cases q1;refine⟨_,?_,B⟩;cases a<;>first|(simp[aU]at w;done)|skip
   simp only[aU]at w
   split at w
   ·rename_i a ha;have M8:=JY h G X g3 ha 0 (λ_=>rfl)
    split at w
    ·rename_i T;cases w;simp only[jj,q2,M8];simp only[sL];rw[if_pos ⟨T,az _⟩]
    ·cases w
   ·cases w
  ·obtain⟨es,P,y,A,F,w,rfl,B⟩:=gT g Q H;rcases es with _|⟨e0,_|⟨e1,_|⟨e2,_|⟨e3,l⟩⟩⟩⟩<;>simp at A
   obtain⟨K,X,hz⟩:=A;obtain⟨a,ys,W,Y,rfl⟩:=dJ F;obtain⟨f,zs,g3,g4,rfl⟩:=dJ Y;obtain⟨b,g5,rfl⟩:=fk g4;obtain⟨a',q1,q2⟩:=l7 h G K;rw[W]at q1;cases q1;refine⟨_,?_,B⟩;cases a<;>first|(simp[aU]at w;done)|skip
   simp only[aU]at w
   split at w
   ·rename_i a b ha lK;have M8:=JY h G X g3 ha 0 (λ_=>rfl)
    split at w
    ·rename_i T;cases w;have hhi:=λf=>JY (lo:=Z _) h G hz g5 lK f (λh=>by cases h);simp only[jj,q2,M8,hhi];rw[if_pos T]
    ·cases w
   ·cases w
 ·
  split at g
  ·obtain⟨es,P,y,A,F,w,rfl,B⟩:=gT g Q H;rcases es with _|⟨e0,_|⟨e1,_|⟨e2,l⟩⟩⟩<;>simp at A
   obtain⟨K,X⟩:=A;obtain⟨a,ys,W,Y,rfl⟩:=dJ F;obtain⟨f,g3,rfl⟩:=fk Y;obtain⟨a',q1,q2⟩:=l7 h G K;rw[W]at q1;cases q1;refine⟨_,?_,B⟩;cases a<;>first|(simp[aU]at w;done)|skip
   simp only[aU]at w
   split at w
   ·rename_i a ha;have M8:=JY h G X g3 ha 0 (λ_=>rfl)
    split at w
    ·rename_i T;cases w;simp only[jj,q2,M8];simp only[sL];rw[if_pos ⟨T.1,T.2,az _⟩,bo]
    ·cases w
   ·cases w
  ·obtain⟨es,P,y,A,F,w,rfl,B⟩:=gT g Q H;rcases es with _|⟨e0,_|⟨e1,_|⟨e2,_|⟨e3,l⟩⟩⟩⟩<;>simp at A
   obtain⟨K,X,hz⟩:=A;obtain⟨a,ys,W,Y,rfl⟩:=dJ F;obtain⟨f,zs,g3,g4,rfl⟩:=dJ Y;obtain⟨b,g5,rfl⟩:=fk g4;obtain⟨a',q1,q2⟩:=l7 h G K;rw[W]at q1;cases q1;refine⟨_,?_,B⟩;cases a<;>first|(simp[aU]at w;done)|skip
   simp only[aU]at w
   split at w
   ·rename_i a b ha lK;have M8:=JY h G X g3 ha 0 (λ_=>rfl)
    split at w
    ·rename_i T;cases w;have hhi:=λf=>JY (lo:=Z _) h G hz g5 lK f (λh=>by cases h);simp only[jj,q2,M8,hhi];rw[if_pos T]
    ·cases w
   ·cases w
 ·
  split at g
  ·rename_i b p K;simp only[aa,aC]at g;obtain⟨rfl,rfl⟩:=g;cases H;have N:=cT h G K;simp only[lN]at N;exact⟨_,by simp only[jj,N],rfl⟩
  ·rename_i i p K;simp only[aa,aC]at g;obtain⟨rfl,rfl⟩:=g;cases H;obtain⟨x,cs,A,F,w⟩:=cT h G K;exact⟨_,by simp only[jj,w],x,cs,A,F,rfl⟩
  ·rename_i r k i p K;simp only[aa,aC]at g;obtain⟨rfl,rfl⟩:=g;cases H;obtain⟨iv,A,F⟩:=cT h G K;exact⟨_,by simp only[jj,F],iv,A,rfl⟩
  ·cases g
 ·
  split at g
  ·rename_i r K
   split at g
   ·rename_i row hl;obtain⟨y,A,es,F,rfl⟩:=h.rw r row hl
    split at g
    ·rename_i hk;simp only[aa,aC]at g;obtain⟨rfl,rfl⟩:=g;obtain⟨P,y,R,B,rfl⟩:=eO H;obtain⟨a,L,rfl⟩:=fk R;rw[F]at L;cases L;have N:=cT h G K;simp only[lN,kv]at N;rw[hk]at B;simp only[aU]at B;refine⟨.d y,?_,y,by subst Q;exact jX ρ y [],rfl⟩;simp only[jj,N,A];rw[if_pos hk];rw[aj]at B ⊢;obtain⟨zs,z1,z2⟩:=B;exact⟨zs,z1,by rw[z2]⟩
    ·cases g
   ·cases g
  ·cases g
 ·cases g
end
end
section
def qv(S:SS):M SB->u (M SE×M SE×Bool×SS)
 |[]=>Z ([],[],I,S)
 | .d e::xs=>match e with
  | .k (.nil _ _)=>O
  | .k x=>(qv S xs).map λp=>(.k x::p.1,p.2.1,p.2.2.1,p.2.2.2)
  |e=>(qv S xs).map λp=>(e::p.1,e::p.2.1,p.2.2.1,p.2.2.2)
 | .nil k a::xs=>(qv S xs).map λp=>(.k (.nil k a)::p.1,p.2.1,p.2.2.1,p.2.2.2)
 | .ref r::xs=>match look S.rw r with
  |some x=>(qv (S.cY r) xs).map λp=>(x.e::p.1,p.2.1,x.deep && !x.fz && p.2.2.1,p.2.2.2)
  |none=>O
 | .any::_=>O
def rh(k:Nat):SS->M SC->u (M SE×M SE×Bool×SS)
 |S,[]=>Z ([],[],I,S)
 |S,c::cs=>match c.cells with
  |some a=>if a.all SB.cell=I then (match qv S a with
   |some p=>if p.1.length=k then (rh k p.2.2.2 cs).map λq=>(p.1++q.1,p.2.1++q.2.1,p.2.2.1 && q.2.2.1,q.2.2.2) else O
   |none=>O) else O
  |none=>O
def Ig(a:M D):M SC->M C->Prop
 |[],cs=>cs=[]
 |x::xs,cs=>∃c b,cs=c::b/\lN a x c/\Ig a xs b
section
variable {ρ iY:M D} {S:SS} {s:St} {gs:Gs}
theorem qU:∀{es fs:M SE} {b ys:M D},jc ρ es=Z b->jc ρ fs=Z ys->jc ρ (es++fs)=Z (b++ys)
 |[],_,_,_,h,a=>by cases h;exact a
 |e::es,_,_,_,h,a=>by
  obtain⟨x,ys,d,c,rfl⟩:=dJ h;simp only[au,jc,d,qU c a,aQ]
theorem Ha:∀{es fs:M SE} {c a:M D},jc ρ es=Z c->jc ρ (es++fs)=Z a->∃ys,a=c++ys/\jc ρ fs=Z ys
 |[],_,_,a,h,b=>by cases h;exact⟨a,rfl,b⟩
 |e::es,_,_,_,h,b=>by
  obtain⟨x,ys,k,j,rfl⟩:=dJ h;obtain⟨m,l,d,i,rfl⟩:=dJ (es:=es++_) b;rw[k]at d;cases d;obtain⟨f,rfl,g⟩:=Ha j i;exact⟨f,rfl,g⟩
theorem yM(a:M D):∀{es:M SE} {b:M D},jc ρ es=Z b->jc (ρ++a) es=Z b
 |[],_,h=>by cases h;rfl
 |e::es,_,h=>by
  obtain⟨x,ys,d,c,rfl⟩:=dJ h;simp only[jc,SE.mono a d,yM a c,aQ]
theorem oQ(x:D)(a:M D):dW (x::a)=(x.plain && dW a):=rfl
theorem x_(a ys:M D):dW (a++ys)=(dW a && dW ys):=List.all_append
theorem PH:∀{B:M SB} {U:M C} {S A:SS} {s:St} {es pl:M SE} {q:Bool},Rel ρ S s->eQ ρ B U->qv S B=Z (es,pl,q,A)->
  ∃m l g,FQ s U=Z (m,q && dW l,g)/\jc ρ es=Z m/\jc ρ pl=Z l/\Rel ρ A g:=by
 intro B
 induction B with
 |nil=>
  intro U S A s es pl q h R f;simp only[eQ]at R;subst R;simp only[qv,aa,aC]at f;obtain⟨rfl,rfl,rfl,rfl⟩:=f;exact⟨[],[],s,rfl,rfl,rfl,h⟩
 |cons x B Q=>
  intro U S A s es pl q h R f;obtain⟨c,X,rfl,N,T⟩:=R;have w:∀{e:SE},x=.d e->(qv S B).map (λp=>(e::p.1,e::p.2.1,p.2.2.1,p.2.2.2))=Z (es,pl,q,A)->∃m l g,FQ s (c::X)=Z (m,q && dW l,g)/\jc ρ es=Z m/\jc ρ pl=Z l/\Rel ρ A g:=by
   intro e he pq;subst he;obtain⟨⟨a1,a2,a3,a4⟩,F,o⟩:=aj.1 pq;simp only[aC]at o;obtain⟨rfl,rfl,rfl,rfl⟩:=o;obtain⟨y,P,rfl⟩:=N;obtain⟨m,l,g,L,K,H,G⟩:=Q h T F;refine⟨y::m,y::l,g,?_,by simp only[jc,P,K,aQ],by simp only[jc,P,H,aQ],G⟩;simp only[FQ,L,aQ,oQ,aa,aC,true_and,and_true];cases D.plain y<;>simp
  cases x with
  |d e=>
   cases e with
   |v i=>exact w rfl f
   |c i j=>exact w rfl f
   |k a=>
    have V:∀{y:D},a.d=y->D.plain y=I->(qv S B).map (λp=>(SE.k a::p.1,p.2.1,p.2.2.1,p.2.2.2))=Z (es,pl,q,A)->∃m l g,FQ s (c::X)=Z (m,q && dW l,g)/\jc ρ es=Z m/\jc ρ pl=Z l/\Rel ρ A g:=by
     intro y P hp f;obtain⟨⟨a1,a2,a3,a4⟩,F,o⟩:=aj.1 f;simp only[aC]at o;obtain⟨rfl,rfl,rfl,rfl⟩:=o;obtain⟨y',W,rfl⟩:=N;simp only[SE.d,aa]at W;rw[P]at W;subst W;obtain⟨m,l,g,L,K,H,G⟩:=Q h T F;exact⟨y::m,l,g,by simp only[FQ,L,aQ,hp,cU],by simp only[jc,SE.d,P,K,aQ],H,G⟩
    cases a with
    |nil k Y=>cases f
    |int k n=>exact V rfl rfl f
    |bool b=>exact V rfl rfl f
    |str t=>exact V rfl rfl f
  |nil k Y=>
   obtain⟨⟨a1,a2,a3,a4⟩,F,o⟩:=aj.1 f;simp only[aC]at o;obtain⟨rfl,rfl,rfl,rfl⟩:=o;simp only[kv]at N;subst N;obtain⟨m,l,g,L,K,H,G⟩:=Q h T F;exact⟨D.list k Y []::m,l,g,by simp only[FQ,L,aQ],by simp only[jc,SE.d,SK.d,K,aQ],H,G⟩
  |ref r=>
   simp only[qv]at f
   split at f
   ·rename_i row hl;obtain⟨⟨a1,a2,a3,a4⟩,F,o⟩:=aj.1 f;simp only[aC]at o;obtain⟨rfl,rfl,rfl,rfl⟩:=o;simp only[kv]at N;subst N;obtain⟨y,q1,jK,q2,rfl⟩:=h.rw r row hl;obtain⟨m,l,g,L,K,H,G⟩:=Q (h.cY r) T F;exact⟨D.list row.k row.fl jK::m,l,g,by simp only[FQ,q1,L,aQ,iE],by simp only[jc,q2,K,aQ],H,G⟩
   ·cases f
  |any=>cases f
theorem G6:∀{i:M C} {s j:St} {f:M D} {g:Bool},FQ s i=Z (f,g,j)->dW f=I->g=I:=by
 intro i
 induction i with
 |nil=>intro s j f g h _;simp only[FQ,aa,aC]at h;exact h.2.1.symm
 |cons c i l=>
  intro s j f g h b;cases c with
  |d x=>
   obtain⟨⟨a1,a2,a3⟩,e,a⟩:=aj.1 h;simp only[aC]at a;obtain⟨rfl,rfl,rfl⟩:=a;rw[oQ,ai]at b;rw[b.1,l e b.2];rfl
  |nil k m=>
   obtain⟨⟨a1,a2,a3⟩,e,a⟩:=aj.1 h;simp only[aC]at a;obtain⟨rfl,rfl,rfl⟩:=a;rw[oQ,ai]at b;exact l e b.2
  |ref r=>
   simp only[FQ]at h
   split at h
   ·obtain⟨⟨a1,a2,a3⟩,e,a⟩:=aj.1 h;simp only[aC]at a;obtain⟨rfl,rfl,rfl⟩:=a;rw[oQ,ai]at b;exact absurd b.1 (by simp[D.plain])
   ·cases h
  |ptr _ _=>cases h
  |pj _ _ _ _=>cases h
  |ub _=>cases h
  |agg _=>cases h
  |ri _=>cases h
  |uv=>cases h
  |any=>cases h
theorem U0{k:Nat}{fl:Bool}:∀{e:M SC} {j:M C} {S r:SS} {s:St} {es pl:M SE} {q:Bool} {o:M D} {i:M (M D)},Rel ρ S s->Ig ρ e j->rh k S e=Z (es,pl,q,r)->
  jc ρ es=Z o->chunk k e.length o=Z i->(fl=I->i.all dW=I)->∃m l,Dk k fl s j=Z (i,q && dW m,l)/\jc ρ pl=Z m/\Rel ρ r l:=by
 intro e
 induction e with
 |nil=>
  intro j S r s es pl q o i h n a F g f;simp only[Ig]at n;subst n;simp only[rh,aa,aC]at a;obtain⟨rfl,rfl,rfl,rfl⟩:=a;cases F;cases g;exact⟨[],s,rfl,rfl,h⟩
 |cons c e Q=>
  intro j S r s es pl q o i h n a F g f;obtain⟨v,fC,rfl,A,y⟩:=n;simp only[rh]at a
  split at a
  ·rename_i xs R
   split at a
   ·rename_i L
    split at a
    ·rename_i p U;obtain⟨p1,p2,P,p4⟩:=p;simp only at a
     split at a
     ·rename_i V;obtain⟨⟨a1,a2,a3,a4⟩,W,H⟩:=aj.1 a;simp only[aC]at H;obtain⟨rfl,rfl,rfl,rfl⟩:=H;obtain⟨b,x,s1,g1,K,Y,X⟩:=PH h (A.cells R L) U;have t:b.length=k:=by rw[lx K,V]
      have TR:=Ha K F;obtain⟨d,rfl,B⟩:=TR;simp only[aG,chunk,a_,t]at g;rw[if_pos (by omega)]at g;obtain⟨ajr,G,rfl⟩:=aj.1 g;have T:(b++d).take k=b:=by rw[<- t];exact oA
      have hd:(b++d).drop k=d:=by rw[<- t];exact yj
      rw[hd]at G;rw[T]at f ⊢;simp only[cV,ai]at f;obtain⟨m,l,q1,q2,N⟩:=Q X y W B G (λw=>(f w).2);refine⟨x++m,l,?_,qU Y q2,N⟩;simp only[Dk,g1];rw[if_pos ⟨t,λw=>(f w).1⟩,q1];simp only[aQ,x_,aa,aC,true_and,and_true];cases P<;>cases a3<;>simp
     ·cases a
    ·cases a
   ·cases a
  ·cases a
end
end
section
def aeu:D->u SK
 | .int k n=>Z (.int k n)
 | .bool b=>Z (.bool b)
 | .str t=>Z (.str t)
 | .list k a []=>Z (.nil k a)
 |_=>O
def SB.iG(q i:Nat):SB->SB
 | .ref r=>if r=q then .ref i else if r=i then .any else .ref r
 |x=>x
def SC.iG(q i:Nat):SC->SC
 | .b x=>.b (x.iG q i)
 | .agg xs=>.agg (xs.map (SB.iG q i))
 | .ri xs=>.ri (xs.map λ| .inl x=>.inl (x.iG q i) | .inr l=>.inr (l.map (SB.iG q i)))
 | .pj r k a o=>if r=q then .pj i k a o else if r=i then .any else .pj r k a o
 |x=>x
def SS.iG(S:SS)(q i:Nat)(row:SR):SS:=⟨S.sl.map λp=>(p.1,⟨p.2.gs,p.2.c.iG q i⟩),S.bx.map λp=>(p.1,p.2.map (SB.iG q i)),(i,row)::sa (sa S.rw q) i⟩
def H0(S:SS)(a:Gs):M KX->u (M SC)
 |[]=>Z []
 |x::xs=>match fZ S a x with
  |some c=>(H0 S a xs).map (c::·)
  |none=>O
def aav(hint:M Nat)(d:Nat)(a b:Bool)(pl:M SE):Bs×Bool:=
 if a=I then ([],I) else if b=J then ([],J) else match pl with
  |[]=>([],I)
  |pl=>if hint.contains (1000 * d+pl.length) then ([(.TU,pl)],J) else ([(.pl,pl)],I)
def OR(S:SS)(k:Nat)(a:Bool):SC->u (SE×Bool×SS)
 | .b (.d e)=>Z (e,a,S)
 | .b (.nil _ _)=>Z (.k (.nil k a),I,S)
 | .b (.ref q)=>match look S.rw q with
  |some row=>if row.k=k/\row.fl=a then Z (row.e,(row.deep && !row.fz) ||a,S.cY q) else O
  |none=>O
 |_=>O
def Y1(S:SS)(a:Gs)(e:SE)(b c:u KX):u (PO×M SE):=
 match c with
 |none=>match uL S a b with
  |some l=>Z (.cut J,[e,l])
  |none=>O
 |some h=>match uL S a b,sD (fZ S a h) with
  |some l,Z h=>Z (.cut I,[e,l,h])
  |_,_=>O
def pN(hint:M Nat)(S:SS)(g:Gs)(n:Nat)(d:u Nat):KO->u (Bs×SS)
 | .alloc t=>match d,gH uQ t with
  |some b,Z j=>Z ([],(S.lY b j).put d ⟨[],.ptr b 0⟩)
  |_,_=>O
 | .box x=>match d,fZ S g x with
  |some b,Z c=>match c.cells with
   |some j=>if j.all SB.cell=I then Z ([],(S.lY b (j.map (SB.kill b))).put d ⟨[],.ptr b 0⟩) else O
   |none=>O
  |_,_=>O
 | .uf k h j=>match d,H0 S g j with
  |some r,Z cs=>match rh k S cs with
   |some p=>if 0 < k then (match aav hint r h p.2.2.1 p.2.1 with
    |(C,deep)=>Z (C++[(.wB k h,p.1)],(p.2.2.2.newRow r ⟨.v (n+C.length),k,h,deep,I,J⟩).put d ⟨[],.b (.ref r)⟩)) else O
   |none=>O
  |_,_=>O
 | .make k l h t x=>match d,sD (fZ S g x),gH aeu t with
  |some r,Z e,Z F=>Z ([(.make k l h F,[e])],(S.newRow r ⟨.v n,k,h,I,I,J⟩).put d ⟨[],.b (.ref r)⟩)
  |_,_,_=>O
 | .st m x y=>match fZ S g x,fZ S g y with
  |some (.ptr b o),Z c=>match look S.bx b,c.cells with
   |some j,Z ys=>if ys.all SB.cell=I/\ys.length=m/\o+m<=j.length then Z ([],S.gl b (aa0 j o ys)) else O
   |_,_=>O
  |some (.pj r k i o),Z c=>match c.cells with
   |some ys=>match qv S ys with
    |some p=>match look p.2.2.2.rw r with
     |some row=>if ys.all SB.cell=I/\row.k=k/\row.fz=J/\row.app=I/\p.1.length=m/\o+m<=k/\(p.2.2.1 ||!row.deep ||row.fl)=I then
       Z (if row.fl ||!row.deep then ([(.set o,row.e::i::p.1)],p.2.2.2.setRow r ⟨.v n,row.k,row.fl,row.deep,row.app,row.fz⟩)
        else ([(.pl,p.2.1),(.set o,row.e::i::p.1)],p.2.2.2.setRow r ⟨.v (n+1),row.k,row.fl,row.deep,row.app,row.fz⟩)) else O
     |none=>O
    |none=>O
   |none=>O
  |_,_=>O
 | .app k l h x y=>match d,fZ S g y with
  |some d0,Z c=>match OR S k h c with
   |some p=>match fZ S g x with
    |some (.b (.nil s D))=>if s=k/\D=h then Z ([(.app k l,[.k (.nil k h),p.1])],(p.2.2.newRow d0 ⟨.v n,k,h,p.2.1,I,J⟩).put d ⟨[],.b (.ref d0)⟩) else O
    |some (.b (.ref r))=>match look p.2.2.rw r with
     |some row=>if row.k=k/\row.fl=h/\row.app=I then Z ([(.app k l,[row.e,p.1])],(p.2.2.newRow r ⟨.v n,row.k,row.fl,row.deep && p.2.1,row.app,row.fz⟩).put d ⟨[],.b (.ref r)⟩) else O
     |none=>O
    |_=>O
   |none=>O
  |_,_=>O
 | .cut k x w B=>match d,fZ S g x with
  |some _,Z (.b (.nil s h))=>match Y1 S g (.k (.nil k h)) w B with
   |some b=>if s=k then Z ([b],S.put d ⟨[],.b (.nil s h)⟩) else O
   |none=>O
  |some _,Z (.b (.ref r))=>match look S.rw r with
   |some row=>match Y1 S g row.e w B with
    |some b=>if row.k=k/\row.fz=J then Z ([b],(S.newRow r ⟨.v n,row.k,row.fl,row.deep,row.app && w.isNone,row.fz⟩).put d ⟨[],.b (.ref r)⟩) else O
    |none=>O
   |none=>O
  |_,_=>O
 | .GV k x y=>match d,fZ S g x,sD (fZ S g y) with
  |some _,Z (.b (.ref r)),Z e=>match look S.rw r with
   |some row=>if row.k=k/\row.fl=I/\row.fz=J/\row.app=I then Z ([(.GV,[row.e,e]),(.len,[.v n])],(S.setRow r ⟨.v n,row.k,row.fl,row.deep,row.app,row.fz⟩).put d ⟨[],vN (n+1)⟩) else O
   |none=>O
  |_,_,_=>O
 | .QJ x=>match d,fZ S g x with
  |some d0,Z (.b (.ref q))=>match look S.rw q with
   |some row=>Z ([],(S.iG q (w8 d0 0) row).put d ⟨[],.b (.ref (w8 d0 0))⟩)
   |none=>O
  |some _,Z (.b (.nil k h))=>Z ([],S.put d ⟨[],.b (.nil k h)⟩)
  |some _,Z (.b (.d e))=>Z ([],S.put d ⟨[],.b (.d e)⟩)
  |_,_=>O
 | .jn x y=>match d,fZ S g x,fZ S g y with
  |some _,Z (.b (.ref r)),Z c=>match look S.rw r with
   |some row=>if row.k=1/\row.fl=I/\row.fz=J/\row.app=I then (match c with
    | .b (.d e)=>Z ([(.jnl,[row.e,e]),(.jnb,[row.e,e])],(S.setRow r ⟨.v n,row.k,row.fl,row.deep,row.app,row.fz⟩).put d ⟨[],vN (n+1)⟩)
    | .b (.ref q)=>match look S.rw q with
     |some A=>if A.k=1/\q≠r then Z ([(.jnl,[row.e,A.e]),(.jnb,[row.e,A.e])],(S.setRow r ⟨.v n,row.k,row.fl,row.deep,row.app,row.fz⟩).put d ⟨[],vN (n+1)⟩) else O
     |none=>O
    |_=>O) else O
   |none=>O
  |_,_,_=>O
 | .xt ins x i f=>match d,sD (fZ S g i),fZ S g f,fZ S g x with
  |some _,Z a,Z c,Z (.b (.ref r))=>match look S.rw r with
   |some row=>if row.k=3/\row.fl=J/\row.app=I/\row.fz=J then (match c with
    | .b (.d e)=>if ins=J then Z ([(.xt J,[row.e,a,e])],(S.newRow r ⟨.v n,row.k,row.fl,row.deep,row.app,row.fz⟩).put d ⟨[],.b (.ref r)⟩) else O
    | .b (.ref q)=>match look S.rw q with
     |some y=>if ins=I/\q≠r/\y.k=3/\y.fl=J/\y.app=I then Z ([(.xt I,[row.e,a,y.e])],((S.cY q).newRow r ⟨.v n,row.k,row.fl,row.deep && (y.deep && !y.fz),row.app,row.fz⟩).put d ⟨[],.b (.ref r)⟩) else O
     |none=>O
    |_=>O) else O
   |none=>O
  |_,_,_,_=>O
 |_=>O
section
variable {ρ iY:M D} {S S':SS} {s:St} {gs:Gs} {bs:Bs} {cf:Nat->M A->u (M A×M A)} {mf:Nat->Bool->M D->Int->u (M D×Int)} {hint:M Nat} {n:Nat} {d:u Nat}
theorem vM:∀{bs cs:Bs} {ρ iY:M D},kV ρ (bs++cs)=Z iY->∃a,kV ρ bs=Z a/\kV a cs=Z iY
 |[],_,ρ,_,h=>⟨ρ,rfl,h⟩
 |(o,es)::bs,cs,ρ,iY,h=>by
  simp only[au,kV]at h ⊢
  split at h
  ·rename_i e g
   split at h
   ·rename_i x f;obtain⟨a,c,b⟩:=vM h;exact⟨a,c,b⟩
   ·cases h
  ·cases h
theorem vO:∀{bs:Bs} {ρ iY:M D},kV ρ bs=Z iY->iY.length=ρ.length+bs.length
 |[],ρ,_,h=>by cases h;rfl
 |(o,es)::bs,ρ,iY,h=>by
  simp only[kV]at h
  split at h
  ·split at h
   ·have:=vO h;simp only[a_,aG,aP]at this ⊢;omega
   ·cases h
  ·cases h
theorem Ig.mono(b:M D):∀{c:M SC} {a:M C},Ig ρ c a->Ig (ρ++b) c a
 |[],_,h=>h
 |_::_,_,⟨v,a,g,f,e⟩=>⟨v,a,g,f.mono b,e.mono b⟩
theorem Bk(h:Rel ρ S s)(f:jt ρ gs=Z I):∀{b:M KX} {e:M SC},H0 S gs b=Z e->Ig ρ e (b.map (gj s))
 |[],_,h=>by cases h;rfl
 |x::b,_,a=>by
  simp only[H0]at a
  split at a
  ·rename_i c g;obtain⟨e,i,rfl⟩:=aj.1 a;exact⟨_,_,rfl,cT h f g,Bk h f i⟩
  ·cases a
theorem nM(g:n=ρ.length){x:D}{k:Nat}{e:Bool}{es:M (M D)}(f:x=.list k e es){a b c:Bool}:Yr (ρ++[x]) ⟨.v n,k,e,a,b,c⟩ ⟨es,k,e,a,b,c⟩:=by
 subst g f;exact⟨es,jX ρ _ [],rfl⟩
theorem ry.ref{r:Nat}:ry ρ ⟨[],.b (.ref r)⟩ (.ref r):=ry.nil (by simp only[lN,kv])
theorem ry.ptr{b o:Nat}:ry ρ ⟨[],.ptr b o⟩ (.ptr b o):=ry.nil (by simp only[lN])
theorem ry.new(a:n=ρ.length){x:D}:ry (ρ++[x]) ⟨[],vN n⟩ (.d x):=by
 subst a;exact ry.nil ⟨x,jX ρ _ [],rfl⟩
theorem Is{a:C}{x:SB}(h:uQ a=Z x):a.const=I:=by
 unfold uQ at h
 split at h<;>first|rfl|cases h
theorem yF:∀{b:M C} {c:M SB},gH uQ b=Z c->b.all C.const=I
 |[],_,_=>rfl
 |a::b,c,h=>by
  simp only[gH]at h
  split at h
  ·rename_i y e;obtain⟨ys,f,rfl⟩:=aj.1 h;simp only[cV,Is e,yF f,jr]
  ·cases h
theorem OO(h:Rel ρ S s){c:M C}(a:pN hint S gs n d (.alloc c)=Z (bs,S'))(g:kV ρ bs=Z iY):∃e,lQ cf mf s d (.alloc c)=Z e/\Rel iY S' e:=by
 simp only[pN]at a
 split at a
 ·rename_i b i f;simp only[aa,aC]at a;obtain⟨rfl,rfl⟩:=a;cases g;exact⟨_,by simp only[lQ,yF f,if_true],(h.lY b (xz f)).put _ ry.ptr⟩
 ·cases a
theorem Xw(h:Rel ρ S s)(j:jt ρ gs=Z I){x:KX}(a:pN hint S gs n d (.box x)=Z (bs,S'))(l:kV ρ bs=Z iY):∃e,lQ cf mf s d (.box x)=Z e/\Rel iY S' e:=by
 simp only[pN]at a
 split at a
 ·rename_i b c i
  split at a
  ·rename_i m k
   split at a
   ·rename_i f;simp only[aa,aC]at a;obtain⟨rfl,rfl⟩:=a;cases l;have g:=(cT h j i).cells k f;exact⟨_,by simp only[lQ,g.cell f,if_true],(h.lY b (g.kill b)).put _ ry.ptr⟩
   ·cases a
  ·cases a
 ·cases a
theorem BY{k:Nat}:∀{b:M SC} {S S':SS} {es pl:M SE} {i:Bool},rh k S b=Z (es,pl,i,S')->es.length=k * b.length
 |[],_,_,_,_,_,h=>by
  simp only[rh,aa,aC]at h;obtain⟨rfl,_⟩:=h;rfl
 |c::b,_,_,_,_,_,a=>by
  simp only[rh]at a
  split at a
  ·split at a
   ·split at a
    ·split at a
     ·rename_i f;obtain⟨⟨a1,a2,a3,a4⟩,g,e⟩:=aj.1 a;simp only[aC]at e;obtain⟨rfl,_⟩:=e;rw[a_,f,BY g,aG,Nat.mul_succ,Nat.add_comm]
     ·cases a
    ·cases a
   ·cases a
  ·cases a
theorem Dl{k:Nat}{e:Bool}:∀{g:M C} {s i:St} {es:M (M D)} {f:Bool},Dk k e s g=Z (es,f,i)->e=I->f=I
 |[],_,_,_,_,h,_=>by simp only[Dk,aa,aC]at h;exact h.2.1.symm
 |c::g,_,_,_,_,h,a=>by
  simp only[Dk]at h
  split at h
  ·rename_i q o p l
   split at h
   ·rename_i j;obtain⟨⟨a1,a2,a3⟩,m,b⟩:=aj.1 h;simp only[aC]at b;obtain⟨rfl,rfl,rfl⟩:=b;rw[Dl m a,G6 l (j.2 a)];rfl
   ·cases h
  ·cases h
theorem aaw{r:Nat}{i j deep:Bool}{pl:M SE}{k f:M D}(a:aav hint r i j pl=(bs,deep))(l:kV ρ bs=Z iY)(c:jc (ρ++f) pl=Z k):deep=(i ||(j && dW k)):=by
 unfold aav at a
 split at a
 ·rename_i e;cases a;simp[e]
 ·rename_i e;have e:i=J:=by simpa using e
  subst e
  split at a
  ·rename_i hd;cases a;simp[hd]
  ·rename_i hd;have hd:j=I:=by simpa using hd
   subst hd
   split at a
   ·cases a;cases c;rfl
   ·split at a
    ·cases a;obtain⟨m,x,h,b,rfl⟩:=eO l;rw[yM f h]at c;cases c;simp only[aU]at b
     split at b
     ·cases b
     ·rename_i g;simpa using g
    ·cases a;obtain⟨m,x,h,b,rfl⟩:=eO l;rw[yM f h]at c;cases c;simp only[aU]at b
     split at b
     ·rename_i g;simpa using g
     ·cases b
theorem OP(h:Rel ρ S s)(K:jt ρ gs=Z I)(G:n=ρ.length){k:Nat}{fl:Bool}{l:M KX}(a:pN hint S gs n d (.uf k fl l)=Z (bs,S'))(N:kV ρ bs=Z iY):∃e,lQ cf mf s d (.uf k fl l)=Z e/\Rel iY S' e:=by
 simp only[pN]at a
 split at a
 ·rename_i r R B
  split at a
  ·rename_i p m;obtain⟨es,pl,w,X⟩:=p;simp only at a
   split at a
   ·rename_i o;generalize F:aav hint r fl w pl=q at a;obtain⟨T,deep⟩:=q;simp only[aa,aC]at a;obtain⟨rfl,rfl⟩:=a;obtain⟨W,i,V⟩:=vM N;obtain⟨U,x,v,b,rfl⟩:=eO V;obtain⟨j,rfl⟩:=qu i;have H:=vO i;have C:=Bk h K B;simp only[aU]at b
    split at b
    ·split at b
     ·rename_i Y t
      split at b
      ·rename_i L;cases b;have c:U.length=k * R.length:=by rw[lx v,BY m]
       rw[c,Nat.mul_div_cancel_left _ o]at t;obtain⟨y,e,g,Q,P⟩:=U0 (fl:=fl) (h.mono j) (C.mono j) m v t L;have hd:=aaw F i Q;have f:(w && dW y)=deep:=by
        cases fl with
        |true=>rw[Dl g rfl,hd];rfl
        |false=>rw[hd,gG]
       rw[f]at g;refine⟨_,by simp only[lQ,g];rw[if_pos o],((P.mono [_]).newRow r (nM (by rw[G,H]) rfl)).put _ ry.ref⟩
      ·cases b
     ·cases b
    ·cases b
   ·cases a
  ·cases a
 ·cases a
theorem Xq:∀{b:M D} {c:M SK},gH aeu b=Z c->c.map SK.d=b
 |[],_,h=>by cases h;rfl
 |a::b,c,h=>by
  simp only[gH]at h
  split at h
  ·rename_i y e;obtain⟨ys,f,rfl⟩:=aj.1 h;rw[aZ,Xq f];unfold aeu at e
   split at e<;>cases e<;>rfl
  ·cases h
theorem RL{k c:Nat}{g:Bool}{f:M SK}{e:M D}{x:D}(h:aU (.make k c g f) e=Z x):∃m,e=[.int .i64 m]/\(0<=m/\m.toNat * c<=room/\m<=4611686018427387904)/\x=.list k g (aY m.toNat (f.map SK.d)):=by
 rcases e with _|⟨a,_|⟨b,l⟩⟩
 ·simp[aU]at h
 ·cases a with
  |int i m=>
   cases i<;>simp only[aU]at h<;>try cases h
   split at h
   ·rename_i j;cases h;exact⟨m,rfl,j,rfl⟩
   ·cases h
  |_=>simp[aU]at h
 ·simp[aU]at h
theorem Le{k e:Nat}{g:M D}{x:D}(h:aU (.app k e) g=Z x):∃i es f,g=[.list k i es,.list k i f]/\(es.length+f.length) * e<=room/\es.length+f.length<=maxLen/\x=.list k i (es++f):=by
 rcases g with _|⟨a,_|⟨b,_|⟨c,l⟩⟩⟩
 ·simp[aU]at h
 ·cases a<;>simp[aU]at h
 ·cases a<;>cases b<;>simp only[aU]at h<;>try cases h
  split at h
  ·rename_i j;obtain⟨rfl,rfl,rfl,o,m⟩:=j;cases h;exact⟨_,_,_,rfl,o,m,rfl⟩
  ·cases h
 ·cases a<;>cases b<;>simp[aU]at h
theorem Vo{o:Nat}{g:M D}{x:D}(h:aU (.set o) g=Z x):∃k c es i f e,g=.list k c es::.int .i64 i::f/\nth es i.toNat=Z e/\o+f.length<=k/\(c=I->dW f=I)/\x=.list k c (es.set i.toNat (gU e o f)):=by
 rcases g with _|⟨a,_|⟨b,l⟩⟩
 ·simp[aU]at h
 ·cases a<;>simp[aU]at h
 ·cases a with
  |list k c es=>
   cases b with
   |int m i=>
    cases m<;>simp only[aU]at h<;>try cases h
    split at h
    ·rename_i e p
     split at h
     ·rename_i j;cases h;exact⟨_,_,_,_,_,_,rfl,p,j.1,j.2,rfl⟩
     ·cases h
    ·cases h
   |_=>simp[aU]at h
  |_=>simp[aU]at h
theorem Vj{e:M D}{x:D}(h:aU .GV e=Z x):∃k es f,e=[.list k I es,.list k I f]/\f.length=es.length/\x=.list k I f:=by
 rcases e with _|⟨a,_|⟨b,_|⟨c,l⟩⟩⟩
 ·simp[aU]at h
 ·cases a<;>simp[aU]at h
 ·cases a<;>cases b<;>simp only[aU]at h<;>try cases h
  split at h
  ·rename_i g;obtain⟨rfl,rfl,rfl,i⟩:=g;cases h;exact⟨_,_,_,rfl,i,rfl⟩
  ·cases h
 ·cases a<;>cases b<;>simp[aU]at h
theorem Vm{f:M D}{x:D}(h:aU .jnl f=Z x):∃es i e bs g,f=[.list 1 I es,.list 1 i e]/\e.length=es.length/\e≠[]/\lr es=Z bs/\lr e=Z g/\x=.list 1 I ((dM bs g).map λb=>[D.bool b]):=by
 rcases f with _|⟨a,_|⟨b,_|⟨c,l⟩⟩⟩
 ·simp[aU]at h
 ·cases a<;>simp[aU]at h
 ·cases a<;>cases b<;>simp only[aU]at h<;>try cases h
  split at h
  ·rename_i k;obtain⟨rfl,rfl,rfl,p,o⟩:=k
   split at h
   ·rename_i bs g m j;cases h;exact⟨_,_,_,_,_,rfl,p,o,m,j,rfl⟩
   ·cases h
  ·cases h
 ·cases a<;>cases b<;>simp[aU]at h
theorem Vl{e:M D}{x:D}(h:aU .jnb e=Z x):∃k p es m i g bs f,e=[.list k p es,.list m i g]/\lr es=Z bs/\lr g=Z f/\x=.bool (nC bs f):=by
 rcases e with _|⟨a,_|⟨b,_|⟨c,l⟩⟩⟩
 ·simp[aU]at h
 ·cases a<;>simp[aU]at h
 ·cases a<;>cases b<;>simp only[aU]at h<;>try cases h
  split at h
  ·rename_i bs f o j;cases h;exact⟨_,_,_,_,_,_,_,_,rfl,o,j,rfl⟩
  ·cases h
 ·cases a<;>cases b<;>simp[aU]at h
theorem Vn{c:M D}{x:D}(h:aU .len c=Z x):∃k e es,c=[.list k e es]/\x=.int .i64 es.length:=by
 rcases c with _|⟨a,_|⟨b,l⟩⟩
 ·simp[aU]at h
 ·cases a<;>simp only[aU]at h<;>cases h
  exact⟨_,_,_,rfl,rfl⟩
 ·cases a<;>simp[aU]at h
theorem Tj(h:Rel ρ S s)(t:jt ρ gs=Z I)(p:n=ρ.length){k c:Nat}{j:Bool}{f:M D}{x:KX}(b:pN hint S gs n d (.make k c j f x)=Z (bs,S'))(w:kV ρ bs=Z iY):∃g,lQ cf mf s d (.make k c j f x)=Z g/\Rel iY S' g:=by
 simp only[pN]at b
 split at b
 ·rename_i r e H o l;simp only[aa,aC]at b;obtain⟨rfl,rfl⟩:=b;obtain⟨L,G,F,C,rfl⟩:=eO w;obtain⟨a,B,rfl⟩:=fk F;obtain⟨K,i,y⟩:=l7 h t o;rw[B]at i;cases i;obtain⟨m,q,v,rfl⟩:=RL C;cases q;refine⟨_,by simp only[lQ,y];rw[if_pos v],((h.mono [_]).newRow r (nM p (by rw[Xq l]))).put _ ry.ref⟩
 ·cases b
theorem lN.sZ{x:SC}{c:C}{a:M SB}(h:lN ρ x c)(e:x.cells=Z a)(b:a.all SB.cell=I):eQ ρ a c.cells/\c.cells.all C.cell=I:=⟨h.cells e b,(h.cells e b).cell b⟩
theorem aa6(h:Rel ρ S s)(G:jt ρ gs=Z I)(hn:n=ρ.length){m:Nat}{x y:KX}(g:pN hint S gs n d (.st m x y)=Z (bs,S'))(V:kV ρ bs=Z iY):∃s',lQ cf mf s d (.st m x y)=Z s'/\Rel iY S' s':=by
 simp only[pN]at g
 split at g
 ·rename_i b o c P N
  split at g
  ·rename_i l ys R U
   split at g
   ·rename_i T;obtain⟨L,F,C⟩:=T;simp only[aa,aC]at g;obtain⟨rfl,rfl⟩:=g;cases V;have t:=cT h G P;simp only[lN]at t;obtain⟨cs,g1,g2⟩:=h.bx b l R;obtain⟨H,g4⟩:=(cT h G N).sZ U L;refine⟨_,by simp only[lQ,t,g1];rw[if_pos ⟨g4,by rw[H.len,F],by rw[g2.len];exact C⟩],h.gl b (g2.xt o H)⟩
   ·cases g
  ·cases g
 ·rename_i r k i o c P N;obtain⟨iv,hi,t⟩:=cT h G P
  split at g
  ·rename_i ys U
   split at g
   ·rename_i p hp;obtain⟨es,pl,dp,S1⟩:=p;simp only at g
    split at g
    ·rename_i row R
     split at g
     ·rename_i T;obtain⟨L,F,C,k4,k5,k6,k7⟩:=T;obtain⟨H,g4⟩:=(cT h G N).sZ U L;obtain⟨X,ps,s1,q1,q2,q3,K⟩:=PH h H hp;obtain⟨f,Y,Kl,w2,rfl⟩:=K.rw r row R;have q:∀{σ:M D} {l:M D} {v:D},jc (ρ++σ) (row.e::i::es)=Z l->aU (.set o) l=Z v->∃e,nth Kl iv.toNat=Z e/\o+X.length<=row.k/\(row.fl=I->dW X=I)/\v=.list row.k row.fl (Kl.set iv.toNat (gU e o X)):=by
       intro σ l v B w;obtain⟨a,Nb,j1,j2,rfl⟩:=dJ B;obtain⟨b,zs',j3,j4,rfl⟩:=dJ j2;rw[SE.mono σ w2]at j1;cases j1;rw[SE.mono σ hi]at j3;cases j3;rw[yM σ q2]at j4;cases j4;obtain⟨k',uc,jK,i',iL,e,t1,t2,t3,t4,rfl⟩:=Vo w;simp only[bY,D.list.injEq,D.int.injEq,true_and]at t1;obtain⟨⟨rfl,rfl,rfl⟩,rfl,rfl⟩:=t1;exact⟨e,t2,t3,t4,rfl⟩
      split at g
      ·rename_i j;simp only[aa,aC]at g;obtain⟨rfl,rfl⟩:=g;obtain⟨Gv,v,B,w,rfl⟩:=eO V;obtain⟨e,t1,t2,t3,rfl⟩:=q (σ:=[]) (by simpa using B) w;refine⟨_,by
        simp only[lQ,t,q1,Y,t1];rw[if_pos ⟨F,C,k4,by rw[lx q2,k5],k6,t3,by
         cases ti:row.fl with
         |true=>rw[G6 q1 (t3 ti)];rfl
         |false=>rw[ti,gG]at j;rw[j,la]⟩],?_⟩
       exact (K.mono [_]).setRow r (nM hn rfl)
      ·rename_i j;simp only[aa,aC]at g;obtain⟨rfl,rfl⟩:=g;obtain⟨TZ,Ay,CA⟩:=vM (bs:=[_]) (cs:=[_]) V;obtain⟨xs1,v1,f1,W,rfl⟩:=eO Ay;obtain⟨Gv,v,B,w,rfl⟩:=eO CA;obtain⟨e,t1,t2,t3,rfl⟩:=q B w;rw[q3]at f1;cases f1;simp only[aU]at W
       split at W
       ·rename_i Q;refine⟨_,by
         simp only[lQ,t,q1,Y,t1];rw[if_pos ⟨F,C,k4,by rw[lx q2,k5],k6,t3,by
          rw[Q,gm];cases dp with
          |true=>rfl
          |false=>
           simp only[Bool.not_eq_true,Bool.or_eq_false_iff]at j;simp only[j.1,j.2,Bool.or_self,aD]at k7⟩],?_⟩
        exact (K.mono [_] |>.mono [_]).setRow r (nM (by rw[hn];simp) rfl)
       ·cases W
     ·cases g
    ·cases g
   ·cases g
  ·cases g
 ·cases g
theorem Tl(h:Rel ρ S s){k:Nat}{i:Bool}{c:SC}{v:C}{e:SE}{l:Bool}{m:SS}(f:lN ρ c v)(b:OR S k i c=Z (e,l,m)):∃x j,e.d ρ=Z x/\Rel ρ m j/\∀es,x=.list k i es->nu s k i v=Z (es,l,j):=by
 unfold OR at b
 split at b
 ·cases b;obtain⟨x,t,rfl⟩:=f;refine⟨x,s,t,h,?_⟩
  rintro es rfl
  simp[nu]
 ·cases b;simp only[lN,kv]at f;subst f;refine⟨_,s,rfl,h,?_⟩;intro es g;cases g;simp[nu]
 ·split at b
  ·rename_i row q
   split at b
   ·rename_i r;obtain⟨rfl,rfl⟩:=r;cases b;simp only[lN,kv]at f;subst f;obtain⟨a,p,w,o,rfl⟩:=h.rw _ row q;refine⟨_,_,o,h.cY _,?_⟩;intro es g;cases g;simp[nu,p]
   ·cases b
  ·cases b
 ·cases b
theorem Xv(h:Rel ρ S s)(B:jt ρ gs=Z I)(P:n=ρ.length){k l:Nat}{m:Bool}{x y:KX}(g:pN hint S gs n d (.app k l m x y)=Z (bs,S'))(Q:kV ρ bs=Z iY):∃K,lQ cf mf s d (.app k l m x y)=Z K/\Rel iY S' K:=by
 simp only[pN]at g
 split at g
 ·rename_i d0 c V
  split at g
  ·rename_i p W;obtain⟨e,dp,S1⟩:=p;simp only at g
   obtain⟨v,s1,N,q2,L⟩:=Tl h (cT h B V) W
   split at g
   ·rename_i k' uc t;have i:=cT h B t;simp only[lN,kv]at i
    split at g
    ·rename_i w;obtain⟨rfl,rfl⟩:=w;simp only[aa,aC]at g;obtain⟨rfl,rfl⟩:=g;obtain⟨Gv,T,F,C,rfl⟩:=eO Q;obtain⟨a,Y,o,G,rfl⟩:=dJ F;obtain⟨b,j,rfl⟩:=fk G;rw[N]at j;cases j;simp only[SE.d,SK.d,aa]at o;subst o;obtain⟨m,es,q,t1,t2,t3,rfl⟩:=Le C;simp only[bY,D.list.injEq,true_and,and_true]at t1;obtain⟨⟨rfl,rfl⟩,rfl⟩:=t1;have q1:=L q rfl;simp only[aP,bu]at t2 t3;refine⟨_,by simp only[lQ,q1,i];rw[if_pos ⟨trivial,trivial,t2,t3⟩],?_⟩;exact ((q2.mono [_]).newRow d0 (nM P (by simp))).put _ ry.ref
    ·cases g
   ·rename_i r t;have i:=cT h B t;simp only[lN,kv]at i
    split at g
    ·rename_i row X
     split at g
     ·rename_i w;obtain⟨rfl,rfl,U⟩:=w;simp only[aa,aC]at g;obtain⟨rfl,rfl⟩:=g;obtain⟨Gv,T,F,C,rfl⟩:=eO Q;obtain⟨a,Y,o,G,rfl⟩:=dJ F;obtain⟨b,j,rfl⟩:=fk G;rw[N]at j;cases j;obtain⟨m,es,q,t1,t2,t3,rfl⟩:=Le C;simp only[bY,and_true]at t1;obtain⟨rfl,rfl⟩:=t1;obtain⟨f,R,Kl,H,rfl⟩:=q2.rw r row X;rw[o]at H;cases H;have q1:=L q rfl;refine⟨_,by simp only[lQ,q1,i,R];rw[if_pos ⟨trivial,trivial,U,t2,t3⟩],?_⟩;exact ((q2.mono [_]).newRow r (nM P rfl)).put _ ry.ref
     ·cases g
    ·cases g
   ·cases g
  ·cases g
 ·cases g
theorem PC(h:Rel ρ S s)(p:jt ρ gs=Z I){e:SE}{lo w:u KX}{b:PO×M SE}(i:Y1 S gs e lo w=Z b){k:Nat}{F:Bool}{es:M (M D)}(B:e.d ρ=Z (.list k F es))(C:kV ρ [b]=Z iY):∃x y,sL s lo 0=Z x/\sL s w es.length=Z y/\x<=y/\y<=es.length/\iY=ρ++[.list k F ((es.take y).drop x)]:=by
 unfold Y1 at i
 split at i
 ·split at i
  ·rename_i l o;cases i;obtain⟨T,v,q,f,rfl⟩:=eO C;obtain⟨a,Q,j,t,rfl⟩:=dJ q;obtain⟨b,r,rfl⟩:=fk t;rw[B]at j;cases j;simp only[aU]at f
   split at f
   ·rename_i x m
    split at f
    ·rename_i g;cases f;refine⟨x,es.length,JY h p o r m 0 (λ_=>rfl),rfl,g,az _,by rw[bo]⟩
    ·cases f
   ·cases f
  ·cases i
 ·rename_i L
  split at i
  ·rename_i l y o K;cases i;obtain⟨T,v,q,f,rfl⟩:=eO C;obtain⟨a,Q,j,t,rfl⟩:=dJ q;obtain⟨b,G,r,P,rfl⟩:=dJ t;obtain⟨c,N,rfl⟩:=fk P;rw[B]at j;cases j;simp only[aU]at f
   split at f
   ·rename_i x H m R
    split at f
    ·rename_i g;cases f;refine⟨x,H,JY h p o r m 0 (λ_=>rfl),JY (lo:=Z L) h p K N R _ (λh=>by cases h),g.1,g.2,rfl⟩
    ·cases f
   ·cases f
  ·cases i
theorem Xy(h:Rel ρ S s)(l:jt ρ gs=Z I)(B:n=ρ.length){k:Nat}{x:KX}{q t:u KX}(e:pN hint S gs n d (.cut k x q t)=Z (bs,S'))(v:kV ρ bs=Z iY):∃p,lQ cf mf s d (.cut k x q t)=Z p/\Rel iY S' p:=by
 simp only[pN]at e
 split at e
 ·rename_i d0 G H m;have f:=cT h l m;simp only[lN,kv]at f
  split at e
  ·rename_i b o
   split at e
   ·rename_i j;subst j;simp only[aa,aC]at e;obtain⟨rfl,rfl⟩:=e;obtain⟨a,F,q1,q2,i,g,rfl⟩:=PC (es:=[]) h l o rfl v;simp only[aP,Nat.le_zero]at g q2;subst g;simp only[Nat.le_zero]at i;subst i;refine⟨_,by simp only[lQ,f,q1,q2];rw[if_pos ⟨trivial,trivial,trivial⟩],(h.mono _).put _ (ry.nil (by simp only[lN,kv]))⟩
   ·cases e
  ·cases e
 ·rename_i d0 r m;have f:=cT h l m;simp only[lN,kv]at f
  split at e
  ·rename_i row C;obtain⟨c,y,K,w,rfl⟩:=h.rw r row C
   split at e
   ·rename_i b o
    split at e
    ·rename_i j;simp only[aa,aC]at e;obtain⟨rfl,rfl⟩:=e;obtain⟨a,F,q1,q2,i,g,rfl⟩:=PC h l o w v;refine⟨_,by simp only[lQ,f,y,q1,q2];rw[if_pos ⟨j.1,i,g,j.2⟩],?_⟩;exact ((h.mono [_]).newRow r (nM B rfl)).put _ ry.ref
    ·cases e
   ·cases e
  ·cases e
 ·cases e
theorem Xx(h:Rel ρ S s)(q:jt ρ gs=Z I)(i:n=ρ.length){k:Nat}{x y:KX}(g:pN hint S gs n d (.GV k x y)=Z (bs,S'))(T:kV ρ bs=Z iY):∃j,lQ cf mf s d (.GV k x y)=Z j/\Rel iY S' j:=by
 simp only[pN]at g
 split at g
 ·rename_i d0 r e P N;have p:=cT h q P;simp only[lN,kv]at p;obtain⟨v,L,K⟩:=l7 h q N
  split at g
  ·rename_i row Q;obtain⟨f,B,Kl,w,rfl⟩:=h.rw r row Q
   split at g
   ·rename_i R;obtain⟨m,H,F,C⟩:=R;simp only[aa,aC]at g;obtain⟨rfl,rfl⟩:=g;obtain⟨TZ,Ay,CA⟩:=vM (bs:=[_]) (cs:=[_]) T;obtain⟨t,v1,Y,X,rfl⟩:=eO Ay;obtain⟨Gv,v',V,U,rfl⟩:=eO CA;obtain⟨a,Nb,t1,t2,rfl⟩:=dJ Y;obtain⟨b,t3,rfl⟩:=fk t2;rw[w]at t1;cases t1;rw[L]at t3;cases t3;obtain⟨k',es,jK,o,i2,rfl⟩:=Vj X;simp only[bY,D.list.injEq,and_true]at o;obtain⟨⟨i3,i4,rfl⟩,rfl⟩:=o;obtain⟨c,c1,rfl⟩:=fk V;obtain⟨G,W,es2,l,rfl⟩:=Vn U;simp only[SE.d,i,jX,aa]at c1;subst c1;simp only[bY,D.list.injEq,and_true]at l;obtain⟨rfl,rfl,rfl⟩:=l;refine⟨_,by simp only[lQ,p,K,B];rw[if_pos ⟨m,by rw[<- i3,m],trivial,H,F,C,i2⟩],?_⟩;refine Rel.put ?_ _ (ry.new (by rw[i];simp));exact ((h.mono [_]).setRow r (nM i (by rw[i3,i4]))).mono [_]
   ·cases g
  ·cases g
 ·cases g
theorem aa5(h:Rel ρ S s)(U:jt ρ gs=Z I)(T:n=ρ.length){x y:KX}(g:pN hint S gs n d (.jn x y)=Z (bs,S'))(t:kV ρ bs=Z iY):∃m,lQ cf mf s d (.jn x y)=Z m/\Rel iY S' m:=by
 simp only[pN]at g
 split at g
 ·rename_i d0 r c hx hy;have R:=cT h U hx;simp only[lN,kv]at R;have i:=cT h U hy
  split at g
  ·rename_i row hl;obtain⟨f,W,Kl,G,rfl⟩:=h.rw r row hl
   split at g
   ·rename_i hk;obtain⟨P,N,k3,k4⟩:=hk;have o:∀{e:SE} {v:D},e.d ρ=Z v->(∀l j,v=.list 1 l j->Hl s r (gj s y)=Z j)->kV ρ [(.jnl,[row.e,e]),(.jnb,[row.e,e])]=Z iY->S'=(S.setRow r ⟨.v n,row.k,row.fl,row.deep,row.app,row.fz⟩).put (Z d0) ⟨[],vN (n+1)⟩->∃m,lQ cf mf s (Z d0) (.jn x y)=Z m/\Rel iY S' m:=by
     rintro e v p X t rfl
     obtain⟨TZ,Ay,CA⟩:=vM (bs:=[_]) (cs:=[_]) t;obtain⟨V,v1,f1,f2,rfl⟩:=eO Ay;obtain⟨Gv,v',h1,h2,rfl⟩:=eO CA;obtain⟨a,Nb,t1,t2,rfl⟩:=dJ f1;obtain⟨b,t3,rfl⟩:=fk t2;rw[G]at t1;cases t1;rw[p]at t3;cases t3;obtain⟨es,l,j,bs,cs,Q,i2,i3,i4,i5,rfl⟩:=Vm f2;simp only[bY,D.list.injEq,and_true]at Q;obtain⟨⟨_,_,rfl⟩,rfl⟩:=Q;obtain⟨a,Nb,t1,t2,rfl⟩:=dJ h1;obtain⟨b,t3,rfl⟩:=fk t2;rw[SE.mono _ G]at t1;cases t1;rw[SE.mono _ p]at t3;cases t3;obtain⟨_,_,es2,_,_,alV,bs',jV,L,K,H,rfl⟩:=Vl h2;simp only[bY,D.list.injEq,and_true]at L;obtain⟨⟨_,_,rfl⟩,⟨_,_,rfl⟩⟩:=L;rw[i4]at K;cases K;rw[i5]at H;cases H;refine⟨_,by simp only[lQ,R,X l j rfl,W];rw[if_pos ⟨P,N,k3,k4,i2⟩];simp only[i4,i5];rw[if_pos i3],?_⟩;refine Rel.put ?_ _ (ry.new (by rw[T];simp));exact ((h.mono [_]).setRow r (nM T (by rw[P,N]))).mono [_]
    split at g
    ·rename_i e;simp only[aa,aC]at g;obtain⟨rfl,F⟩:=g;obtain⟨v,p,j2⟩:=i;exact o p (λl j C=>by rw[j2,C];rfl) t F.symm
    ·rename_i q
     split at g
     ·rename_i My Y
      split at g
      ·rename_i hq;simp only[aa,aC]at g;obtain⟨rfl,F⟩:=g;simp only[lN,kv]at i;obtain⟨z',B,ajr,w,rfl⟩:=h.rw q My Y;refine o w (λl j C=>?_) t F.symm
       injection C with e1 e2 e3
       subst e3;simp only[i,Hl,B];rw[if_pos hq]
      ·cases g
     ·cases g
    ·cases g
   ·cases g
  ·cases g
 ·cases g
theorem kv.iG(q i:Nat):∀{x:SB} {c:C},kv ρ x c->kv ρ (x.iG q i) (c.iG q i)
 | .d e,_,⟨x,b,a⟩=>by subst a;exact⟨x,b,rfl⟩
 | .nil _ _,_,h=>by simp only[kv]at h;subst h;rfl
 | .ref r,_,h=>by
  simp only[kv]at h;subst h;simp only[SB.iG,C.iG];split
  ·rfl
  ·split
   ·trivial
   ·rfl
 | .any,_,_=>trivial
theorem eQ.iG(q i:Nat):∀{a:M SB} {b:M C},eQ ρ a b->eQ ρ (a.map (SB.iG q i)) (C.Be q i b)
 |[],_,h=>by simp only[eQ]at h;subst h;rfl
 |_::_,_,⟨c,j,g,f,e⟩=>by subst g;exact⟨_,_,rfl,f.iG q i,eQ.iG q i e⟩
theorem uF.iG(q i:Nat):∀{f:M (SB ⊕ M SB)} {g:M C},uF ρ f g->uF ρ (f.map λ| .inl x=>.inl (x.iG q i) | .inr l=>.inr (l.map (SB.iG q i))) (C.Be q i g)
 |[],_,h=>by simp only[uF]at h;subst h;rfl
 | .inl _::_,_,⟨c,j,e,b,a⟩=>by subst e;exact⟨_,_,rfl,b.iG q i,uF.iG q i a⟩
 | .inr _::_,_,⟨k,j,e,b,a⟩=>by subst e;exact⟨_,_,rfl,b.iG q i,uF.iG q i a⟩
theorem lN.iG(q i:Nat):∀{x:SC} {c:C},lN ρ x c->lN ρ (x.iG q i) (c.iG q i)
 | .b _,_,h=>kv.iG q i h
 | .agg _,_,⟨cs,e,f⟩=>by subst e;exact⟨_,rfl,f.iG q i⟩
 | .ri _,_,⟨cs,e,f⟩=>by subst e;exact⟨_,rfl,f.iG q i⟩
 | .ptr b o,_,h=>by simp only[lN]at h;subst h;rfl
 | .pj r k a o,_,⟨n,e,f⟩=>by
  subst f;simp only[SC.iG,C.iG];split
  ·exact⟨n,e,rfl⟩
  ·split
   ·trivial
   ·exact⟨n,e,rfl⟩
 | .ub _ _,_,⟨x,cs,e,f,g⟩=>by subst g;exact⟨x,cs,e,f,rfl⟩
 | .any,_,_=>trivial
theorem Rel.iG(h:Rel ρ S s)(q i:Nat){row:SR}{y:Row}(o:Yr ρ row y):Rel ρ (S.iG q i row) (s.iG q i y) where
 sl d g a:=by
  simp only[SS.iG]at a;rw[pT (λg:SG=>(⟨g.gs,g.c.iG q i⟩:SG)),aj]at a;obtain⟨t,e,rfl⟩:=a;obtain⟨b,l,k,p⟩:=h.sl d t e;have:(s.iG q i y).get d=(s.get d).iG q i:=by
   simp only[St.get,St.iG,Xi];rw[pT (C.iG q i)];cases look s.sl d<;>rfl
  rw[this];exact⟨b,l,λj=>(k j).iG q i,λj=>by rw[p j];rfl⟩
 bx b m a:=by
  simp only[SS.iG]at a;rw[pT (λm:M SB=>m.map (SB.iG q i)),aj]at a;obtain⟨w,e,rfl⟩:=a;obtain⟨v,l,k⟩:=h.bx b w e;refine⟨C.Be q i v,?_,k.iG q i⟩;simp only[St.iG,Xh];rw[pT (C.Be q i),l];rfl
 rw r x a:=by
  simp only[SS.iG,look,eN]at a;simp only[St.iG,look,eN]
  split at a
  ·rename_i f;cases a;exact⟨y,by rw[if_pos f],o⟩
  ·rename_i f;rw[if_neg f]
   split at a
   ·cases a
   ·rename_i e;rw[if_neg f,if_neg e];exact h.rw r x a
theorem Xz(h:Rel ρ S s)(f:jt ρ gs=Z I){x:KX}(a:pN hint S gs n d (.QJ x)=Z (bs,S'))(g:kV ρ bs=Z iY):∃i,lQ cf mf s d (.QJ x)=Z i/\Rel iY S' i:=by
 simp only[pN]at a
 split at a
 ·rename_i d0 q b;have c:=cT h f b;simp only[lN,kv]at c
  split at a
  ·rename_i row p;simp only[aa,aC]at a;obtain⟨rfl,rfl⟩:=a;cases g;obtain⟨y,l,j⟩:=h.rw q row p;exact⟨_,by simp only[lQ,c,l],(h.iG q (w8 d0 0) j).put _ ry.ref⟩
  ·cases a
 ·rename_i d0 k r b;have c:=cT h f b;simp only[lN,kv]at c;simp only[aa,aC]at a;obtain⟨rfl,rfl⟩:=a;cases g;exact⟨s.put (Z d0) (.nil k r),by simp only[lQ,c],h.put _ (ry.nil (by simp only[lN,kv]))⟩
 ·rename_i d0 e b;obtain⟨v,o,m⟩:=cT h f b;simp only[aa,aC]at a;obtain⟨rfl,rfl⟩:=a;cases g;exact⟨_,by simp only[lQ,m],h.put _ (ry.nil ⟨v,o,rfl⟩)⟩
 ·cases a
theorem RM{x y c v:D}(h:aU (.xt J) [x,y,c]=Z v):∃k f es a b,x=.list k f es/\y=.int .i64 a/\c=.int .i64 b/\0<=a/\a < b/\b<=es.length/\es.length * 56<=room/\v=.list k f (es.take a.toNat++es.drop b.toNat):=by
 cases x<;>cases y<;>cases c<;>first|(simp[aU]at h;done)|skip
 rename_i k f es i a g b;cases i<;>first|(simp[aU]at h;done)|skip
 cases g<;>first|(simp[aU]at h;done)|skip
 simp only[aU]at h
 split at h
 ·rename_i e;cases h;exact⟨_,_,_,_,_,rfl,rfl,rfl,e.1,e.2.1,e.2.2.1,e.2.2.2,rfl⟩
 ·cases h
theorem RN{x y b v:D}(h:aU (.xt I) [x,y,b]=Z v):∃k f es a i g c,x=.list k f es/\y=.int .i64 a/\b=.list i g c/\0<=a/\a<=es.length/\c≠[]/\(es.length+c.length) * 56<=room/\v=.list k f (es.take a.toNat++c++es.drop a.toNat):=by
 cases x<;>cases y<;>cases b<;>first|(simp[aU]at h;done)|skip
 rename_i k f es j a i g c;cases j<;>first|(simp[aU]at h;done)|skip
 simp only[aU]at h
 split at h
 ·rename_i e;cases h;exact⟨_,_,_,_,_,_,_,rfl,rfl,rfl,e.1,e.2.1,e.2.2.1,e.2.2.2,rfl⟩
 ·cases h
theorem XA(h:Rel ρ S s)(F:jt ρ gs=Z I)(hn:n=ρ.length){ins:Bool}{x i b:KX}(f:pN hint S gs n d (.xt ins x i b)=Z (bs,S'))(hb:kV ρ bs=Z iY):∃T,lQ cf mf s d (.xt ins x i b)=Z T/\Rel iY S' T:=by
 simp only[pN]at f
 split at f
 ·rename_i d0 a c r hi hz hx;have w:=cT h F hx;have g:=cT h F hz;simp only[lN,kv]at w;obtain⟨va,j1,Y⟩:=l7 h F hi
  split at f
  ·rename_i row hl;obtain⟨zz,R,Kl,Q,rfl⟩:=h.rw r row hl
   split at f
   ·rename_i hk;obtain⟨X,W,V,U⟩:=hk
    split at f
    ·rename_i e;obtain⟨ve,g1,g2⟩:=g
     split at f
     ·rename_i P;subst P;simp only[aa,aC]at f;obtain⟨rfl,rfl⟩:=f;obtain⟨Gv,v',H,G,rfl⟩:=eO hb;obtain⟨a1,Nb,m,L,rfl⟩:=dJ H;obtain⟨a2,o,l,K,rfl⟩:=dJ L;obtain⟨a3,j,rfl⟩:=fk K;rw[Q]at m;cases m;rw[j1]at l;cases l;rw[g1]at j;cases j;obtain⟨k,fl,es,p,q,t1,rfl,rfl,t2,t3,t4,t5,rfl⟩:=RM G;simp only[D.list.injEq]at t1;obtain⟨t6,v,rfl⟩:=t1;have t:yc s J p (gj s b)=Z (q,[],I,s):=by rw[g2];simp only[yc];rw[if_pos ⟨trivial,t3⟩]
      refine⟨_,by simp only[lQ,Y,t,w,R];rw[if_pos ⟨X,W,V,U,t2,t4,by simpa using t5⟩],?_⟩;exact ((h.mono [_]).newRow r (by rw[gm,aJ];exact nM hn (by rw[t6,v]))).put _ ry.ref
     ·cases f
    ·rename_i q;simp only[lN,kv]at g
     split at f
     ·rename_i y C;obtain⟨z2,w3,N,w4,rfl⟩:=h.rw q y C
      split at f
      ·rename_i hc;obtain⟨rfl,B,y1,y2,y3⟩:=hc;simp only[aa,aC]at f;obtain⟨rfl,rfl⟩:=f;obtain⟨Gv,v',H,G,rfl⟩:=eO hb;obtain⟨a1,Nb,m,L,rfl⟩:=dJ H;obtain⟨a2,o,l,K,rfl⟩:=dJ L;obtain⟨a3,j,rfl⟩:=fk K;rw[Q]at m;cases m;rw[j1]at l;cases l;rw[w4]at j;cases j;obtain⟨k,fl,es,p,k',uc,jK,t1,rfl,t0,t2,t4,t5,t8,rfl⟩:=RN G;simp only[D.list.injEq]at t1 t0;obtain⟨t6,v,rfl⟩:=t1;obtain⟨_,_,rfl⟩:=t0;have t:yc s I p (gj s b)=Z (p,N,y.deep && !y.fz,s.cY q):=by rw[g];simp only[yc,w3];rw[if_pos ⟨trivial,y1,y2,y3,t5⟩]
       have w5:look (s.cY q).rw r=Z ⟨Kl,row.k,row.fl,row.deep,row.app,row.fz⟩:=by simp only[St.cY,eN];rw[if_neg B];exact R
       refine⟨_,by simp only[lQ,Y,t,w,w5];rw[if_pos ⟨X,W,V,U,t2,t4,t8⟩],?_⟩;exact (((h.cY q).mono [_]).newRow r (nM hn (by rw[t6,v]))).put _ ry.ref
      ·cases f
     ·cases f
    ·cases f
   ·cases f
  ·cases f
 ·cases f
theorem OQ(h:Rel ρ S s)(f:jt ρ gs=Z I)(g:n=ρ.length){o:KO}(c:pN hint S gs n d o=Z (bs,S'))(e:kV ρ bs=Z iY):o.kT=J/\∃j,lQ cf mf s d o=Z j/\Rel iY S' j:=by
 cases o with
 |alloc p=>exact⟨rfl,OO h c e⟩
 |box x=>exact⟨rfl,Xw h f c e⟩
 |uf k l q=>exact⟨rfl,OP h f g c e⟩
 |make k b l p x=>exact⟨rfl,Tj h f g c e⟩
 |st m x y=>exact⟨rfl,aa6 h f g c e⟩
 |app k b l x y=>exact⟨rfl,Xv h f g c e⟩
 |cut k x r t=>exact⟨rfl,Xy h f g c e⟩
 |GV k x y=>exact⟨rfl,Xx h f g c e⟩
 |jn x y=>exact⟨rfl,aa5 h f g c e⟩
 |xt ins x i a=>exact⟨rfl,XA h f g c e⟩
 |QJ x=>exact⟨rfl,Xz h f c e⟩
 |_=>cases c
end
end
section
section
variable {T:Nat->u KF} {cf:Cf} {mf:Mf}
noncomputable def cnd(T:Nat->u KF)(mf:Mf)(c:C)(a b:K)(s:St):u (Ex×St):=ife c (ev T mf a s) (ev T mf b s)
theorem ack(c:KX)(a b:K)(s:St):ev T mf (.cond c a b) s=cnd T mf (gj s c) a b s:=IK T mf c a b s
theorem afl(a b:K)(s:St):cnd T mf (.d (.bool I)) a b s=ev T mf a s:=rfl
theorem afk(a b:K)(s:St):cnd T mf (.d (.bool J)) a b s=ev T mf b s:=rfl
end
attribute [go_sem 2000] ack
attribute [go_sem] afl afk Nat.max_def ite_self
theorem bw{a:Type}{l:M a}{i:Nat}{x:a}(h:nth l i=Z x):i < l.length:=by rw[eh]at h;exact (bh.1 h).1
inductive Sg (σ ρ:Type) where
 |go (s:σ)
 |out (r:ρ)
def jP{c a b:Type}(step:Nat->a->c->Sg a b):Nat->a->M c->Sg a b
 |_,s,[]=>.go s
 |i,s,e::es=>match step i s e with
  | .go d=>jP step (i+1) d es
  | .out r=>.out r
def sgR{a b:Type}(st:a->St)(c:b->Ex×St):Sg a b->u (Ex×St)
 | .go s=>Z (.norm,st s)
 | .out r=>Z (c r)
def sgE{a c:Type}(b:Nat)(fin:a->St)(d:c->Ex×St):Sg a c->u (Ex×St)
 | .go s=>Z (.exit b,fin s)
 | .out r=>Z (d r)
theorem abf{g:St->u (Ex×St)}{r:Ex×St}(h:r.1≠.norm):Gu g (Z r)=Z r:=by
 obtain⟨e,s⟩:=r;cases e with
 |norm=>exact absurd rfl h
 |exit i=>rfl
 |ret=>rfl
theorem SY{T:Nat->u KF}{g:Mf}{body:K}{n c k:Type}{es:M n}{b:Nat}(step:Nat->c->n->Sg c k)(a:Nat->c->Prop)(st:Nat->c->St)(fin:c->St)(f:k->Ex×St)
  (o:∀r,(f r).1≠.norm)
  (p:∀i e s,nth es i=Z e->a i s->ev T g body (st i s)=sgR (st (i+1)) f (step i s e)/\∀d,step i s e=.go d->a (i+1) d)
  (q:∀s,a es.length s->ev T g body (st es.length s)=Z (.exit b,fin s)) :
  ∀m i s,i+m=es.length->a i s->ev T g (.loop body) (st i s)=sgE b fin f (jP step i s (es.drop i))
 |0,i,s,h,j=>by
  obtain rfl:i=es.length:=by omega
  rw[gX,q s j,bJ];rfl
 |m+1,i,s,h,j=>by
  have a1:=dz (l:=es) (i:=i) (by omega);obtain⟨w,v⟩:=p i _ s a1 j;rw[eM es i _ a1,gX,w];simp only[jP];cases t:step i s es[i]with
  |go d=>
   simp only[sgR,Gu];exact SY step a st fin f o p q m (i+1) d (by omega) (v d t)
  |out r=>
   simp only[sgR,sgE];exact abf (o r)
def allI{a:Type}(p:Nat->a->Bool):Nat->M a->Bool
 |_,[]=>I
 |i,e::es=>p i e && allI p (i+1) es
theorem uH{a:Type}(p:a->Bool):∀(i:Nat) (es:M a),allI (λ_=>p) i es=es.all p
 |_,[]=>rfl
 |i,e::es=>by simp[allI,uH p (i+1) es]
theorem L1{T:Nat->u KF}{c:Mf}{body:K}{d:Type}{es:M d}{b:Nat}(p:Nat->d->Bool)(st:Nat->St)(fin r:St)
  (f:∀i e,nth es i=Z e->ev T c body (st i)=if p i e=I then Z (.norm,st (i+1)) else Z (.ret,r))
  (g:ev T c body (st es.length)=Z (.exit b,fin)) :
  ∀m i,i+m=es.length->ev T c (.loop body) (st i)=if allI p i (es.drop i)=I then Z (.exit b,fin) else Z (.ret,r)
 |0,i,h=>by
  obtain rfl:i=es.length:=by omega
  rw[gX,g,bJ];rfl
 |m+1,i,h=>by
  have a1:=dz (l:=es) (i:=i) (by omega);have j:allI p i (es.drop i)=(p i (es[i]'(by omega)) && allI p (i+1) (es.drop (i+1))):=by rw[eM es i _ a1];rfl
  rw[gX,f i _ a1,j];by_cases a:p i (es[i]'(by omega))=I
  ·rw[if_pos a,a,cU];exact L1 p st fin r f g m (i+1) (by omega)
  ·rw[if_neg a,eg.2 a,cM,if_neg da];rfl
theorem aeX{T:Nat->u KF}{a:Mf}{body:K}{c:Type}{es:M c}{b:Nat}(p:c->Bool)(st:Nat->St)(fin r:St)
  (d:∀i e,nth es i=Z e->ev T a body (st i)=if p e=I then Z (.norm,st (i+1)) else Z (.ret,r))
  (f:ev T a body (st es.length)=Z (.exit b,fin)):ev T a (.loop body) (st 0)=if es.all p=I then Z (.exit b,fin) else Z (.ret,r):=by
 have h:=L1 (λ_=>p) st fin r d f es.length 0 (by omega);rw[br,uH]at h;exact h
def mB{a:Type}(p:a->Bool):M a->Nat->u Nat
 |[],_=>O
 |e::es,k=>if p e then Z k else mB p es (k+1)
def alW(b:Nat)(fin:St)(r:Nat->St):u Nat->u (Ex×St)
 |none=>Z (.exit b,fin)
 |some i=>Z (.ret,r i)
theorem zn{a β:Type}{f:a->β}{es:M a}{i:Nat}{e:a}(h:nth es i=Z e):(es.take (i+1)).map f=(es.take i).map f++[f e]:=by
 rw[cB es i e h];simp
theorem PV{a:Type}{p:a->Bool}:∀{es:M a} {k j:Nat},mB p es k=Z j->∃e,k<=j/\nth es (j - k)=Z e/\p e=I
 |[],k,j,h=>by simp[mB]at h
 |e::es,k,j,h=>by
  simp only[mB]at h
  split at h
  ·rename_i b;obtain rfl:=iF h;exact⟨e,az _,by simp[nth],b⟩
  ·obtain⟨x,f,d,c⟩:=PV h;refine⟨x,by omega,?_,c⟩;rw[show j - k=(j - (k+1))+1 by omega];exact d
theorem dU{a:Type}{p:a->Bool}{es:M a}{j:Nat}(h:mB p es 0=Z j):∃e,nth es j=Z e/\p e=I:=by
 obtain⟨e,_,c,b⟩:=PV h;exact⟨e,by simpa using c,b⟩
def ko:u Nat->Int
 |none=>-1
 |some j=>(j:Int)
inductive Ab {σ ρ:Type} (b:σ->Option (Sg σ ρ)):σ->ρ->Prop
 |out {s:σ} {r:ρ} (h:b s=some (.out r)):Ab b s r
 |go {s s':σ} {r:ρ} (h:b s=some (.go s')) (h':Ab b s' r):Ab b s r
open Classical in
noncomputable def cl{a c:Type}(b:a->u (Sg a c))(s:a):u c:=if h:∃r,Ab b s r then Z h.choose else O
theorem NV{a c:Type}{b:a->u (Sg a c)}{s:a}{r:c}(h:cl b s=Z r):Ab b s r:=by
 unfold cl at h
 split at h
 ·rename_i d;rw[<- iF h];exact d.choose_spec
 ·cases h
theorem Ab.ym{a c:Type}{b:a->u (Sg a c)}{s:a}{r d:c}(h:Ab b s r)(e:Ab b s d):r=d:=by
 induction h with
 |out h=>
  cases e with
  |out g=>rw[h]at g;cases g;rfl
  |go g _=>rw[h]at g;cases g
 |go h _ f=>
  cases e with
  |out g=>rw[h]at g;cases g
  |go g i=>rw[h]at g;cases g;exact f i
theorem yb{a c:Type}{b:a->u (Sg a c)}{s:a}{r:c}(h:Ab b s r):cl b s=Z r:=by
 unfold cl;have d:∃r,Ab b s r:=⟨r,h⟩
 rw[dif_pos d,d.choose_spec.ym h]
theorem aX{a c:Type}{b:a->u (Sg a c)}{s:a}{r:c}(h:b s=Z (.out r)):cl b s=Z r:=yb (.out h)
theorem bU{c e:Type}{b:c->u (Sg c e)}{s s':c}(h:b s=Z (.go s')):cl b s=cl b s':=by
 by_cases d:∃r,Ab b s' r
 ·obtain⟨r,a⟩:=d;rw[yb a,yb (.go h a)]
 ·have f:¬∃r,Ab b s r:=λ⟨r,a⟩=>by
   cases a with
   |out g=>rw[h]at g;cases g
   |go g i=>rw[h]at g;cases g;exact d ⟨r,i⟩
  unfold cl;rw[dif_neg d,dif_neg f]
theorem aR{a β:Type}(f:a->β):∀(l:M a) (i:Nat),nth (l.map f) i=(nth l i).map f
 |[],_=>rfl
 |_::_,0=>rfl
 |_::l,i+1=>aR f l i
theorem wrap_i64{a:Int}(h:-9223372036854775808<=a/\a<=9223372036854775807):IntKind.i64.wrap a=a:=cD (by omega)
theorem wrap_u8{a:Int}(h:0<=a/\a<=255):IntKind.u8.wrap a=a:=by
 simp[IntKind.wrap,IntKind.bits,IntKind.signed];omega
theorem aes{c:Type}{b:Nat}{a t:M c}(d:b<=65536)(h:a.length+t.length<=2147483648):((a.length+t.length) * b<=room/\a.length+t.length<=maxLen)=True:=by
 refine eq_true ⟨aH (Nat.mul_le_mul h d) (by decide),aH h (by decide)⟩
def Na{a b c:Type}(mk:a->b):Sg a c->Sg b c
 | .go t=>.go (mk t)
 | .out r=>.out r
def sgF{b a:Type}(fin:b->a):Sg b a->a
 | .go t=>fin t
 | .out r=>r
theorem P0{o c g j:Type}{b:g->u (Sg g j)}{es:M o}(mk:Nat->c->g)(step:Nat->c->o->Sg c j)(fin:c->j)(a:Nat->c->Prop)
  (p:∀i e t,nth es i=Z e->a i t->b (mk i t)=Z (Na (mk (i+1)) (step i t e))/\∀d,step i t e=.go d->a (i+1) d)
  (q:∀t,a es.length t->b (mk es.length t)=Z (.out (fin t))) :
  ∀m i t,i+m=es.length->a i t->cl b (mk i t)=Z (sgF fin (jP step i t (es.drop i)))
 |0,i,t,h,n=>by
  obtain rfl:i=es.length:=by omega
  rw[aX (q t n),bJ];rfl
 |m+1,i,t,h,n=>by
  have a1:=dz (l:=es) (i:=i) (by omega);obtain⟨f,s⟩:=p i _ t a1 n;rw[eM es i _ a1];simp only[jP];cases k:step i t es[i]with
  |go d=>
   rw[k]at f;rw[bU f];exact P0 mk step fin a p q m (i+1) d (by omega) (s d k)
  |out r=>
   rw[k]at f;rw[aX f];rfl
theorem yS{g c d f:Type}{b:d->u (Sg d f)}(es:M g)(mk:Nat->c->d)(step:Nat->c->g->Sg c f)(fin:c->f)(a:Nat->c->Prop)(t:c)(l:a 0 t)
  (k:∀i e t,nth es i=Z e->a i t->b (mk i t)=Z (Na (mk (i+1)) (step i t e))/\∀j,step i t e=.go j->a (i+1) j)
  (m:∀t,a es.length t->b (mk es.length t)=Z (.out (fin t))):cl b (mk 0 t)=Z (sgF fin (jP step 0 t es)):=by
 have h:=P0 mk step fin a k m es.length 0 t (by omega) l
 rwa [br]at h
theorem pD{k f j:Type}{b:f->u (Sg f j)}(es:M k)(mk:Nat->f)(p:Nat->k->Bool)(a g:j)
  (n:∀i e,nth es i=Z e->b (mk i)=Z (if p i e=I then .go (mk (i+1)) else .out g))
  (o:b (mk es.length)=Z (.out a)):∀m i,i+m=es.length->cl b (mk i)=Z (if allI p i (es.drop i)=I then a else g)
 |0,i,h=>by
  obtain rfl:i=es.length:=by omega
  rw[aX o,bJ];rfl
 |m+1,i,h=>by
  have a1:=dz (l:=es) (i:=i) (by omega);have d:=n i _ a1;have q:allI p i (es.drop i)=(p i (es[i]'(by omega)) && allI p (i+1) (es.drop (i+1))):=by rw[eM es i _ a1];rfl
  rw[q];by_cases c:p i (es[i]'(by omega))=I
  ·rw[if_pos c]at d;rw[bU d,c,cU];exact pD es mk p a g n o m (i+1) (by omega)
  ·rw[if_neg c]at d;rw[aX d,eg.2 c,cM,if_neg da]
theorem mU{g c f:Type}{b:c->u (Sg c f)}(es:M g)(mk:Nat->c)(p:g->Bool)(a d:f)
  (j:∀i e,nth es i=Z e->b (mk i)=Z (if p e=I then .go (mk (i+1)) else .out d))
  (k:b (mk es.length)=Z (.out a)):cl b (mk 0)=Z (if es.all p=I then a else d):=by
 have h:=pD es mk (λ_=>p) a d j k es.length 0 (by omega)
 rwa [br,uH]at h
theorem PZ{g d f:Type}{b:d->u (Sg d f)}(es:M g)(mk:Nat->d)(p:g->Bool)(none_:f)(k:Nat->g->f)
  (n:∀i e,nth es i=Z e->b (mk i)=Z (if p e=I then .out (k i e) else .go (mk (i+1))))
  (o:b (mk es.length)=Z (.out none_)):∀m i,i+m=es.length->cl b (mk i)=Z (match mB p (es.drop i) i with|none=>none_|some j=>match nth es j with|some e=>k j e|none=>none_)
 |0,i,h=>by
  obtain rfl:i=es.length:=by omega
  rw[aX o,bJ];rfl
 |m+1,i,h=>by
  have a1:=dz (l:=es) (i:=i) (by omega);have c:=n i _ a1;rw[eM es i _ a1];simp only[mB];by_cases a:p (es[i]'(by omega))=I
  ·rw[if_pos a]at c;rw[aX c,if_pos a];simp only[a1]
  ·rw[if_neg a]at c;rw[bU c,if_neg a];exact PZ es mk p none_ k n o m (i+1) (by omega)
theorem qh{d a c:Type}{b:a->u (Sg a c)}(es:M d)(mk:Nat->a)(p:d->Bool)(none_:c)(f:Nat->d->c)
  (g:∀i e,nth es i=Z e->b (mk i)=Z (if p e=I then .out (f i e) else .go (mk (i+1))))
  (k:b (mk es.length)=Z (.out none_)):cl b (mk 0)=Z (match mB p es 0 with|none=>none_|some j=>match nth es j with|some e=>f j e|none=>none_):=by
 have h:=PZ es mk p none_ f g k es.length 0 (by omega)
 rwa [br]at h
theorem ei{k c a d:Type}{b:a->u (Sg a d)}(es:M k)(mk:Nat->c->a)(f:Nat->c)(fin:d)
  (g:∀i e,nth es i=Z e->b (mk i (f i))=Z (.go (mk (i+1) (f (i+1)))))
  (j:b (mk es.length (f es.length))=Z (.out fin)):∀m i,i+m=es.length->cl b (mk i (f i))=Z fin
 |0,i,h=>by
  obtain rfl:i=es.length:=by omega
  exact aX j
 |m+1,i,h=>by
  have a1:=dz (l:=es) (i:=i) (by omega);rw[bU (g i _ a1)];exact ei es mk f fin g j m (i+1) (by omega)
def nr{β:Type}(i:Nat):M β->Int ⊕ (Int×M β)
 |[]=>.inl i
 |x::t=>.inr (i,x::t)
end
section
inductive ST where
 |nil
 |cons (a b:ST)
 |op (gs:Gs) (o:PO) (es:List SE) (t:ST)
 |gd (gs:Gs) (a b:ST)
 |call (i:Nat) (es:List SE) (ts:ST)
 |leaf (j:Nat) (es:List SE)
 |map (f:List Nat) (t:ST)
 |seq (t ts:ST)
 |loop (h:Nat) (es:List SE) (bs:ST)
 |both (a b:ST)
 deriving DecidableEq
abbrev Gf:=Nat->M D->u (Nat×M D)
def DF:u (Nat×M D)->u (Sg (Nat×M D) (Nat×M D))
 |some (j,σ)=>Z (if j % 2=0 then .go (j / 2,σ) else .out (j / 2,σ))
 |none=>O
open Classical in
noncomputable def GI{c:Type}:u c->u c->u c
 |some a,Z b=>if a=b then Z a else O
 |_,_=>O
theorem Uz{c:Type}{a b:u c}{r:c}(h:GI a b=Z r):a=Z r/\b=Z r:=by
 unfold GI at h
 split at h
 ·split at h
  ·rename_i d;cases h;subst d;exact⟨rfl,rfl⟩
  ·cases h
 ·cases h
theorem Nt{b:Type}(a:b):GI (Z a) (Z a)=Z a:=by simp[GI]
noncomputable def eZ(G:Gf):ST->Nat->M D->u (Nat×M D)
 | .nil,_,_=>O
 | .cons a _,0,ρ=>eZ G a 0 ρ
 | .cons _ b,j+1,ρ=>eZ G b j ρ
 | .op gs o es t,_,ρ=>match jt ρ gs with
  |some I=>match jc ρ es with
   |some d=>match aU o d with
    |some x=>eZ G t 0 (ρ++[x])
    |none=>O
   |none=>O
  |some J=>eZ G t 0 (ρ++[.bool J])
  |none=>O
 | .gd gs a b,_,ρ=>match jt ρ gs with
  |some I=>eZ G a 0 ρ
  |some J=>eZ G b 0 ρ
  |none=>O
 | .call i es e,_,ρ=>match jc ρ es with
  |some d=>match G i d with
   |some (j,ws)=>eZ G e j (ρ++ws)
   |none=>O
  |none=>O
 | .leaf j es,_,ρ=>match jc ρ es with
  |some d=>Z (j,d)
  |none=>O
 | .map f t,_,ρ=>match eZ G t 0 ρ with
  |some (j,c)=>(nth f j).map (·,c)
  |none=>O
 | .seq t e,_,ρ=>match eZ G t 0 ρ with
  |some (j,c)=>eZ G e j c
  |none=>O
 | .loop h es g,_,ρ=>match jc ρ es with
  |some c=>cl (λp=>DF (eZ G g p.1 p.2)) (h,c)
  |none=>O
 | .both a b,_,ρ=>GI (eZ G a 0 ρ) (eZ G b 0 ρ)
def Nv(c:Nat):SB->SB×M SE
 | .d e=>(.d (.v c),[e])
 |x=>(x,[])
def xh:Nat->M SB->M SB×M SE
 |_,[]=>([],[])
 |c,x::xs=>match Nv c x with
  |(y,es)=>match xh (c+es.length) xs with
   |(ys,fs)=>(y::ys,es++fs)
def Il:Nat->M (SB ⊕ M SB)->M (SB ⊕ M SB)×M SE
 |_,[]=>([],[])
 |c,.inl x::xs=>match Nv c x with
  |(y,es)=>match Il (c+es.length) xs with
   |(ys,fs)=>(.inl y::ys,es++fs)
 |c,.inr x::xs=>match xh c x with
  |(y,es)=>match Il (c+es.length) xs with
   |(ys,fs)=>(.inr y::ys,es++fs)
def Ry(c:Nat):SC->SC×M SE
 | .b x=>match Nv c x with
  |(y,es)=>(.b y,es)
 | .agg xs=>match xh c xs with
  |(ys,es)=>(.agg ys,es)
 | .ri xs=>match Il c xs with
  |(ys,es)=>(.ri ys,es)
 | .ptr b o=>(.ptr b o,[])
 | .pj r k i o=>(.pj r k (.v c) o,[i])
 | .ub i o=>(.ub c o,[.v i])
 | .any=>(.any,[])
def BA(a:Gs):Nat->M (Nat×SG)->M (Nat×SG)×M SE
 |_,[]=>([],[])
 |c,(d,g)::l=>if g.gs.all (λp=>Z' (p∈a)) then (match Ry c g.c with
   |(y,es)=>match BA a (c+es.length) l with
    |(ys,fs)=>((d,⟨[],y⟩)::ys,es++fs))
  else match BA a c l with
   |(ys,fs)=>((d,⟨[],.any⟩)::ys,fs)
def GN:Nat->M (Nat×M SB)->M (Nat×M SB)×M SE
 |_,[]=>([],[])
 |c,(d,x)::l=>match xh c x with
  |(y,es)=>match GN (c+es.length) l with
   |(ys,fs)=>((d,y)::ys,es++fs)
def GO:Nat->M (Nat×SR)->M (Nat×SR)×M SE
 |_,[]=>([],[])
 |c,(d,x)::l=>match GO (c+1) l with
   |(ys,fs)=>((d,{x with e:=.v c })::ys,x.e::fs)
def agu(d:Nat):M Nat->M Nat
 |[]=>[d]
 |e::l=>if d < e then d::e::l else if d=e then e::l else e::agu d l
def Qm{a:Type}:M (Nat×a)->M Nat
 |[]=>[]
 |(d,_)::l=>agu d (Qm l)
def SS.keys(S:SS):mo:=⟨Qm S.sl,Qm S.bx,Qm S.rw⟩
def Rz(a:Gs)(S:SS):SS×M SE:=
 match BA a 0 (S.dL S.keys).sl with
 |(sl,es)=>match GN es.length (S.dL S.keys).bx with
  |(bx,fs)=>match GO (es.length+fs.length) (S.dL S.keys).rw with
   |(rw,gs)=>(⟨sl,bx,rw⟩,es++(fs++gs))
section
variable {ρ:M D}
theorem JF{a:Type}:∀(l:M a) (x:a) (m:M a),nth (l++([x]++m)) l.length=Z x:=λl x m=>jX l x m
theorem Ik{c:Nat}{x y:SB}{es:M SE}{v:C}{h:M D}(f:Nv c x=(y,es))(g:kv ρ x v)(j:jc ρ es=Z h){b σ1:M D}(m:b.length=c):kv (b++(h++σ1)) y v:=by
 subst m;cases x with
 |d e=>
  cases f;obtain⟨a,l,rfl⟩:=g;obtain⟨w,i,rfl⟩:=fk j;rw[l]at i;cases i;exact⟨a,JF _ _ _,rfl⟩
 |nil k n=>cases f;exact g
 |ref r=>cases f;exact g
 |any=>cases f;trivial
theorem nb:∀{es fs:M SE} {c:M D},jc ρ (es++fs)=Z c->∃b a,jc ρ es=Z b/\jc ρ fs=Z a/\c=b++a
 |[],_,c,h=>⟨[],c,rfl,h,rfl⟩
 |e::es,_,_,h=>by
  obtain⟨x,ys,i,g,rfl⟩:=dJ (es:=es++_) h;obtain⟨b,a,f,d,rfl⟩:=nb g;exact⟨x::b,a,by simp only[jc,i,f,aQ],d,rfl⟩
theorem yC:∀{b:M SB} {c:Nat} {ys:M SB} {es:M SE} {e:M C} {d σ0 σ1:M D},xh c b=(ys,es)->eQ ρ b e->jc ρ es=Z d->σ0.length=c->eQ (σ0++(d++σ1)) ys e
 |[],_,_,_,_,_,_,_,a,i,g,f=>by
  cases a;exact i
 |x::b,c,ys,es,e,d,σ0,σ1,a,⟨v,p,j,o,n⟩,g,f=>by
  subst j;simp only[xh]at a;generalize m:Nv c x=q at a;obtain⟨y,t⟩:=q;simp only at a
  generalize l:xh (c+t.length) b=q at a;obtain⟨w,fs⟩:=q;cases a;obtain⟨s,r,h,k,rfl⟩:=nb g;refine⟨v,p,rfl,?_,?_⟩
  ·have:=Ik m o h f (σ1:=r++σ1)
   simpa only [bB] using this
  ·have:=yC l n k (σ0:=σ0++s) (σ1:=σ1) (by rw[a_,f,lx h])
   simpa only [bB] using this
theorem Im:∀{b:M (SB ⊕ M SB)} {c:Nat} {ys:M (SB ⊕ M SB)} {es:M SE} {g:M C} {f σ0 σ1:M D},Il c b=(ys,es)->uF ρ b g->jc ρ es=Z f->σ0.length=c->uF (σ0++(f++σ1)) ys g
 |[],_,_,_,_,_,_,_,a,t,h,d=>by
  cases a;exact t
 | .inl x::b,c,ys,es,g,f,σ0,σ1,a,⟨v,o,i,n,m⟩,h,d=>by
  subst i;simp only[Il]at a;generalize l:Nv c x=q at a;obtain⟨y,s⟩:=q;simp only at a
  generalize k:Il (c+s.length) b=q at a;obtain⟨w,fs⟩:=q;cases a;obtain⟨r,p,e,j,rfl⟩:=nb h;refine⟨v,o,rfl,?_,?_⟩
  ·have:=Ik l n e d (σ1:=p++σ1)
   simpa only [bB] using this
  ·have:=Im k m j (σ0:=σ0++r) (σ1:=σ1) (by rw[a_,d,lx e])
   simpa only [bB] using this
 | .inr x::b,c,ys,es,g,f,σ0,σ1,a,⟨v,o,i,n,m⟩,h,d=>by
  subst i;simp only[Il]at a;generalize l:xh c x=q at a;obtain⟨y,s⟩:=q;simp only at a
  generalize k:Il (c+s.length) b=q at a;obtain⟨w,fs⟩:=q;cases a;obtain⟨r,p,e,j,rfl⟩:=nb h;refine⟨v,o,rfl,?_,?_⟩
  ·have:=yC l n e d (σ1:=p++σ1)
   simpa only [bB] using this
  ·have:=Im k m j (σ0:=σ0++r) (σ1:=σ1) (by rw[a_,d,lx e])
   simpa only [bB] using this
theorem YW{c:Nat}{x y:SC}{es:M SE}{v:C}{t:M D}(a:Ry c x=(y,es))(g:lN ρ x v)(j:jc ρ es=Z t){h σ1:M D}(l:h.length=c):lN (h++(t++σ1)) y v:=by
 cases x with
 |b x=>
  simp only[Ry]at a;generalize e:Nv c x=q at a;obtain⟨A,B⟩:=q;cases a;exact Ik e g j l
 |agg s=>
  simp only[Ry]at a;generalize e:xh c s=q at a;obtain⟨A,B⟩:=q;cases a;obtain⟨m,rfl,f⟩:=g;exact⟨m,rfl,yC e f j l⟩
 |ri s=>
  simp only[Ry]at a;generalize e:Il c s=q at a;obtain⟨A,B⟩:=q;cases a;obtain⟨m,rfl,f⟩:=g;exact⟨m,rfl,Im e f j l⟩
 |ptr b o=>cases a;exact g
 |pj r k i o=>
  cases a;subst l;obtain⟨n,f,rfl⟩:=g;obtain⟨w,p,rfl⟩:=fk j;rw[f]at p;cases p;exact⟨n,JF _ _ _,rfl⟩
 |ub i o=>
  cases a;subst l;obtain⟨x,m,f,p,rfl⟩:=g;obtain⟨w,e,rfl⟩:=fk j;rw[SE.d,f]at e;cases e;exact⟨x,m,JF _ _ _,p,rfl⟩
 |any=>cases a;trivial
theorem C8{f:Gs}(m:jt ρ f=Z I):∀{l:M (Nat×SG)} {c:Nat} {k:M (Nat×SG)} {es:M SE} {j σ0 σ1:M D},BA f c l=(k,es)->jc ρ es=Z j->σ0.length=c->
  ∀d g,look k d=Z g->∃e,look l d=Z e/\∀v,ry ρ e v->ry (σ0++(j++σ1)) g v
 |[],_,_,_,_,_,_,a,n,i=>by
  cases a;intro d g h;cases h
 |(d0,e)::l,c,k,es,j,σ0,σ1,a,n,i=>by
  intro d g h;simp only[BA]at a
  split at a
  ·rename_i s;generalize w:Ry c e.c=q at a;obtain⟨y,C⟩:=q;simp only at a
   generalize o:BA f (c+C.length) l=q at a;obtain⟨B,fs⟩:=q;cases a;obtain⟨A,x,r,t,rfl⟩:=nb n;simp only[look]at h ⊢
   split at h
   ·rename_i hd;cases h;refine⟨e,by rw[if_pos hd],λv p=>?_⟩;obtain⟨b,q1,q2,F⟩:=p;rw[NW m s]at q1;cases q1;have:=YW w (q2 rfl) r i (σ1:=x++σ1);exact ry.nil (by simpa only [bB] using this)
   ·rename_i hd;rw[if_neg hd];have:=C8 m o t (σ0:=σ0++A) (σ1:=σ1) (by rw[a_,i,lx r]) d g h
    simpa only [bB] using this
  ·generalize o:BA f c l=q at a;obtain⟨B,fs⟩:=q;cases a;simp only[look]at h ⊢
   split at h
   ·rename_i hd;cases h;exact⟨e,by rw[if_pos hd],λv p=>ry.nil trivial⟩
   ·rename_i hd;rw[if_neg hd];exact C8 m o n i d g h
theorem KN:∀{l:M (Nat×M SB)} {c:Nat} {f:M (Nat×M SB)} {es:M SE} {e σ0 σ1:M D},GN c l=(f,es)->jc ρ es=Z e->σ0.length=c->
  ∀d g,look f d=Z g->∃b,look l d=Z b/\∀v,eQ ρ b v->eQ (σ0++(e++σ1)) g v
 |[],_,_,_,_,_,_,a,j,i=>by
  cases a;intro d g h;cases h
 |(d0,b)::l,c,f,es,e,σ0,σ1,a,j,i=>by
  intro d g h;simp only[GN]at a;generalize p:xh c b=q at a;obtain⟨y,t⟩:=q;simp only at a
  generalize o:GN (c+t.length) l=q at a;obtain⟨w,fs⟩:=q;cases a;obtain⟨s,r,k,n,rfl⟩:=nb j;simp only[look]at h ⊢
  split at h
  ·rename_i hd;cases h;refine⟨b,by rw[if_pos hd],λv m=>?_⟩;have:=yC p m k i (σ1:=r++σ1)
   simpa only [bB] using this
  ·rename_i hd;rw[if_neg hd];have:=KN o n (σ0:=σ0++s) (σ1:=σ1) (by rw[a_,i,lx k]) d g h
   simpa only [bB] using this
theorem KP:∀{l:M (Nat×SR)} {c:Nat} {f:M (Nat×SR)} {es:M SE} {e σ0 σ1:M D},GO c l=(f,es)->jc ρ es=Z e->σ0.length=c->
  ∀d g,look f d=Z g->∃b,look l d=Z b/\∀v,Yr ρ b v->Yr (σ0++(e++σ1)) g v
 |[],_,_,_,_,_,_,a,k,i=>by
  cases a;intro d g h;cases h
 |(d0,b)::l,c,f,es,e,σ0,σ1,a,k,i=>by
  intro d g h;simp only[GO]at a;generalize p:GO (c+1) l=q at a;obtain⟨t,fs⟩:=q;cases a;obtain⟨x,r,o,n,rfl⟩:=dJ k;simp only[look]at h ⊢
  split at h
  ·rename_i hd;cases h;refine⟨b,by rw[if_pos hd],λv m=>?_⟩;obtain⟨s,j,rfl⟩:=m;rw[o]at j;cases j;subst i;exact⟨s,jX σ0 _ (r++σ1),rfl⟩
  ·rename_i hd;rw[if_neg hd];have:=KP p n (σ0:=σ0++[x]) (σ1:=σ1) (by rw[a_,i];rfl) d g h
   simpa only [bB,au,av] using this
theorem Rel.alT{S:SS}{s:St}(h:Rel ρ S s)(e:mo):Rel ρ (S.dL e) s:=
 ⟨λd g a=>h.sl d g (i_ _ _ a).1,λb c a=>h.bx b c (i_ _ _ a).1,λr x a=>h.rw r x (i_ _ _ a).1⟩
theorem Py{S v:SS}{s:St}{l:Gs}{es:M SE}{p:M D}(h:Rel ρ S s)(B:jt ρ l=Z I)(a:Rz l S=(v,es))(C:jc ρ es=Z p):Rel p v s:=by
 have h:=h.alT S.keys;unfold Rz at a;generalize H:BA l 0 (S.dL S.keys).sl=q at a;obtain⟨sl,w⟩:=q;simp only at a
 generalize G:GN w.length (S.dL S.keys).bx=q at a;obtain⟨bx,n⟩:=q;simp only at a
 generalize F:GO (w.length+n.length) (S.dL S.keys).rw=q at a;obtain⟨A,N⟩:=q;cases a;obtain⟨σ1,P,m,L,rfl⟩:=nb C;obtain⟨e,c,t,K,rfl⟩:=nb L;refine⟨λd g f=>?_,λb y f=>?_,λr x f=>?_⟩
 ·obtain⟨i,q1,q2⟩:=C8 B H m (σ0:=[]) (σ1:=e++c) rfl d g f;exact q2 _ (h.sl d i q1)
 ·obtain⟨i,q1,q2⟩:=KN G t (σ0:=σ1) (σ1:=c) (lx m) b y f;obtain⟨o,k,j⟩:=h.bx b i q1;exact⟨o,k,q2 _ j⟩
 ·obtain⟨i,q1,q2⟩:=KP F K (σ0:=σ1++e) (σ1:=[]) (by rw[a_,lx m,lx t]) r x f;obtain⟨o,k,j⟩:=h.rw r i q1;refine⟨o,k,?_⟩;have:=q2 _ j
  simpa only [bB,aJ] using this
end
end
section
inductive Ih where
 |d
 |row (k:Nat) (fl deep app fz:Bool)
 deriving DecidableEq
inductive SA where
 |val (ag:Bool) (l:List Ih)
 |box (l:List Ih)
 deriving DecidableEq
structure nh where
 f:Nat
 args:List SA
 res:List (List SA×List SA)
 deriving DecidableEq
def SA.n:SA->Nat
 | .val _ l=>l.length
 | .box l=>l.length
def SA.l:SA->M Ih
 | .val _ l=>l
 | .box l=>l
def Dm:Ih->D->u RV
 | .d,x=>Z (.d x)
 | .row k a deep app fz,.list c b es=>if c=k/\b=a then Z (.row ⟨es,k,a,deep,app,fz⟩) else O
 |_,_=>O
def nW:M Ih->M D->u (M RV)
 |[],[]=>Z []
 |v::a,x::xs=>match Dm v x with
  |some r=>(nW a xs).map (r::·)
  |none=>O
 |_,_=>O
def nz:SA->M D->u A
 | .val a l,xs=>(nW l xs).map (.val a)
 | .box l,xs=>(nW l xs).map .box
def iI:M SA->M D->u (M A)
 |[],[]=>Z []
 |[],_::_=>O
 |a::as,xs=>match nz a (xs.take a.n) with
  |some r=>(iI as (xs.drop a.n)).map (r::·)
  |none=>O
def yE:M SA->Nat
 |[]=>0
 |a::as=>a.n+yE as
def yL(v:M SA×M SA)(a:M D):u (M A×M A):=
 match iI v.1 (a.take (yE v.1)),iI v.2 (a.drop (yE v.1)) with
 |some rs,Z outs=>Z (rs,outs)
 |_,_=>O
def YK(e:Cf)(d:M (Nat×nh))(G:Gf):Prop:=
 ∀i a,look d i=Z a->∀b j c,G i b=Z (j,c)->∃as r v,iI a.args b=Z as/\nth a.res j=Z v/\yL v c=Z r/\e a.f as=Z r
def rdS(S:SS):SB->u SE
 | .d e=>Z e
 | .nil k a=>Z (.k (.nil k a))
 | .ref r=>(look S.rw r).map (·.e)
 | .any=>O
def wrS(S:SS):SB->u (Ih×SE)
 | .d e=>Z (.d,e)
 | .nil k a=>Z (.row k a I I J,.k (.nil k a))
 | .ref r=>(look S.rw r).map λx=>(.row x.k x.fl x.deep x.app x.fz,x.e)
 | .any=>O
def SC.isAgg:SC->Bool
 | .agg _=>I
 |_=>J
def aa2(S:SS):SC->u (SA×M SE)
 | .ptr b 0=>match look S.bx b with
  |some a=>(gH (wrS S) a).map λl=>(.box (l.map (·.1)),l.map (·.2))
  |none=>O
 |c=>match c.cells with
  |some a=>(gH (rdS S) a).map λl=>(.val c.isAgg (l.map λ_=>.d),l)
  |none=>O
def MH(S:SS):M SC->u (M SA×M SE)
 |[]=>Z ([],[])
 |c::cs=>match aa2 S c with
  |some (a,es)=>(MH S cs).map λp=>(a::p.1,es++p.2)
  |none=>O
def gJ:M SB->M Nat
 |[]=>[]
 | .ref r::cs=>r::gJ cs
 |_::cs=>gJ cs
def tH(S:SS):SC->M Nat
 | .ptr b 0=>gJ ((look S.bx b).getD [])
 |_=>[]
def tG(S:SS):M SC->M Nat
 |[]=>[]
 |c::cs=>tH S c++tG S cs
def BM:M SC->M Nat
 |[]=>[]
 |c::cs=>gJ (c.cells.getD [])++BM cs
def rE:M SC->M Nat
 |[]=>[]
 | .ptr b _::cs=>b::rE cs
 |_::cs=>rE cs
section
variable {ρ:M D} {S:SS} {s:St}
theorem aep(h:Rel ρ S s){x:SB}{v:C}{e:SE}(a:kv ρ x v)(b:rdS S x=Z e):∃y,e.d ρ=Z y/\mZ s v=Z (.d y):=by
 cases x with
 |d j=>cases b;obtain⟨y,c,rfl⟩:=a;exact⟨y,c,rfl⟩
 |nil k i=>cases b;simp only[kv]at a;subst a;exact⟨_,rfl,rfl⟩
 |ref r=>
  simp only[kv]at a;subst a;obtain⟨x,c,rfl⟩:=aj.1 b;obtain⟨y,g,es,f,rfl⟩:=h.rw r x c;exact⟨_,f,by simp only[mZ,g,aQ]⟩
 |any=>cases b
theorem aeH(h:Rel ρ S s){x:SB}{v:C}{p:Ih×SE}(a:kv ρ x v)(b:wrS S x=Z p):∃y r,p.2.d ρ=Z y/\kc s v=Z r/\Dm p.1 y=Z r:=by
 cases x with
 |d i=>cases b;obtain⟨y,c,rfl⟩:=a;exact⟨y,_,c,rfl,rfl⟩
 |nil k g=>cases b;simp only[kv]at a;subst a;exact⟨_,_,rfl,rfl,by simp[SK.d,Dm]⟩
 |ref r=>
  simp only[kv]at a;subst a;obtain⟨x,c,rfl⟩:=aj.1 b;obtain⟨y,f,es,e,rfl⟩:=h.rw r x c;exact⟨_,.row ⟨es,x.k,x.fl,x.deep,x.app,x.fz⟩,e,by simp only[kc,f,aQ],by simp[Dm]⟩
 |any=>cases b
theorem Q4(h:Rel ρ S s):∀{g:M SB} {b:M C} {es:M SE},eQ ρ g b->gH (rdS S) g=Z es->∃ys c,jc ρ es=Z ys/\gH (mZ s) b=Z c/\nW (es.map λ_=>.d) ys=Z c
 |[],b,_,f,a=>by cases a;simp only[eQ]at f;subst f;exact⟨[],[],rfl,rfl,rfl⟩
 |x::g,_,es,⟨v,b,f,q,p⟩,a=>by
  subst f;simp only[gH]at a
  split at a
  ·rename_i e i;obtain⟨r,o,rfl⟩:=aj.1 a;obtain⟨y,n,m⟩:=aep h q i;obtain⟨ys,c,l,k,j⟩:=Q4 h p o;exact⟨y::ys,.d y::c,by simp only[jc,n,l,aQ],by simp only[gH,m,k,aQ],by simp only[aZ,nW,Dm,j,aQ]⟩
  ·cases a
theorem CV(h:Rel ρ S s):∀{e:M SB} {b:M C} {f:M (Ih×SE)},eQ ρ e b->gH (wrS S) e=Z f->∃ys c,jc ρ (f.map (·.2))=Z ys/\gH (kc s) b=Z c/\nW (f.map (·.1)) ys=Z c
 |[],b,_,d,a=>by cases a;simp only[eQ]at d;subst d;exact⟨[],[],rfl,rfl,rfl⟩
 |x::e,_,es,⟨v,b,d,t,q⟩,a=>by
  subst d;simp only[gH]at a
  split at a
  ·rename_i p g;obtain⟨w,o,rfl⟩:=aj.1 a;obtain⟨y,r,n,m,i⟩:=aeH h t g;obtain⟨ys,c,l,k,j⟩:=CV h q o;exact⟨y::ys,r::c,by simp only[aZ,jc,n,l,aQ],by simp only[gH,m,k,aQ],by simp only[aZ,nW,i,j,aQ]⟩
  ·cases a
theorem n9:∀{l:M Ih} {a:M D} {b:M RV},nW l a=Z b->a.length=l.length
 |[],[],_,_=>rfl
 |[],_::_,_,h=>by cases h
 |_::_,[],_,h=>by cases h
 |v::l,x::a,b,h=>by
  simp only[nW]at h
  split at h
  ·obtain⟨ys,c,_⟩:=aj.1 h;simp[n9 c]
  ·cases h
theorem sG{a β:Type}{f:a->u β}{p:a->Bool}(c:∀x y,f x=Z y->p x=I):∀{b:M a} {ys:M β},gH f b=Z ys->b.all p=I
 |[],_,_=>rfl
 |x::b,_,h=>by
  simp only[gH]at h
  split at h
  ·rename_i y d;obtain⟨ys,e,_⟩:=aj.1 h;simp only[cV,c x y d,sG c e,jr]
  ·cases h
theorem Xd{x:SB}{e:SE}(h:rdS S x=Z e):x.cell=I:=by cases x<;>first|rfl|cases h
theorem zV{x:SB}{e:Ih×SE}(h:wrS S x=Z e):x.cell=I:=by cases x<;>first|rfl|cases h
theorem oC:∀{c:M SB} {f:M C},eQ ρ c f->c.all SB.cell=I->rowsOf f=gJ c
 |[],_,h,_=>by simp only[eQ]at h;subst h;rfl
 |x::c,_,⟨v,f,i,b,g⟩,a=>by
  subst i;simp only[cV,ai]at a;cases x with
  |d e=>obtain⟨y,_,rfl⟩:=b;simp only[rowsOf,gJ];exact oC g a.2
  |nil k j=>simp only[kv]at b;subst b;simp only[rowsOf,gJ];exact oC g a.2
  |ref r=>simp only[kv]at b;subst b;simp only[rowsOf,gJ,oC g a.2]
  |any=>cases a.1
def T8(c:SC)(v:C):Prop:=(∃b,c=.ptr b 0/\v=.ptr b 0)\/((∀b o,c≠.ptr b o)/\∀b o,v≠.ptr b o)
theorem aa3(h:Rel ρ S s){c:SC}{v:C}{a:SA}{es:M SE}(q:lN ρ c v)(g:aa2 S c=Z (a,es)) :
  ∃f r,jc ρ es=Z f/\Tt s v=Z r/\nz a f=Z r/\f.length=a.n/\sH s v=tH S c/\rowsOf v.cells=gJ (c.cells.getD [])/\T8 c v:=by
 have val:∀{i:M SB} {l:M SE},c.cells=Z i->gH (rdS S) i=Z l->a=.val c.isAgg (l.map λ_=>.d)->es=l->(∀b o,c≠.ptr b o)->
   ∃f r,jc ρ es=Z f/\Tt s v=Z r/\nz a f=Z r/\f.length=a.n/\sH s v=tH S c/\rowsOf v.cells=gJ (c.cells.getD [])/\T8 c v:=by
  rintro i l e j rfl rfl t
  have A:=sG (λ_ _=>Xd) j;have H:=q.cells e A;obtain⟨ys,F,m,k,y⟩:=Q4 h H j;have G:∀b o,v≠.ptr b o:=by
   rintro b o rfl
   cases c with
   |b x=>
    cases e;have:=kv.cell q (by simpa using A);cases this
   |agg ys=>obtain⟨L,B,_⟩:=q;cases B
   |ptr b o=>exact t b o rfl
   |ri _=>cases e
   |pj _ _ _ _=>cases e
   |ub _ _=>cases e
   |any=>cases e
  have P:v.isAgg=c.isAgg:=by
   cases c with
   |b x=>
    cases e;have:=kv.cell q (by simpa using A);cases v<;>first|rfl|cases this
   |agg ys=>obtain⟨L,rfl,_⟩:=q;rfl
   |ptr b o=>exact absurd rfl (t b o)
   |ri _=>cases e
   |pj _ _ _ _=>cases e
   |ub _ _=>cases e
   |any=>cases e
  refine⟨ys,.val v.isAgg F,m,?_,by rw[P];simp only[nz,y,aQ],by rw[n9 y];rfl,?_,?_,.inr ⟨t,G⟩⟩
  ·unfold Tt;split
   ·exact absurd rfl (G _ _)
   ·simp only[k,aQ]
  ·have:sH s v=[]:=by
    unfold sH;split
    ·exact absurd rfl (G _ _)
    ·rfl
   rw[this];unfold tH;split
   ·exact absurd rfl (t _ _)
   ·rfl
  ·rw[e,oC H A];rfl
 have box:∀{b:Nat} {i:M SB} {l:M (Ih×SE)},c=.ptr b 0->look S.bx b=Z i->gH (wrS S) i=Z l->a=.box (l.map (·.1))->es=l.map (·.2)->
   ∃f r,jc ρ es=Z f/\Tt s v=Z r/\nz a f=Z r/\f.length=a.n/\sH s v=tH S c/\rowsOf v.cells=gJ (c.cells.getD [])/\T8 c v:=by
  rintro b i l rfl j m rfl rfl
  simp only[lN]at q;subst q;obtain⟨L,y,B⟩:=h.bx b i j;obtain⟨ys,F,R,Q,K⟩:=CV h B m;refine⟨ys,.box F,R,by simp only[Tt,y,Q,aQ],by simp only[nz,K,aQ],by rw[n9 K];rfl,?_,rfl,.inl ⟨b,rfl,rfl⟩⟩;have:=oC B (sG (p:=SB.cell) (λ_ _=>zV) m);simp only[sH,tH,y,j,ku,this]
 have w:(∀b o,c≠.ptr b o)->(match c.cells with
  |some i=>(gH (rdS S) i).map λl=>(SA.val c.isAgg (l.map λ_=>Ih.d),l)
  |none=>O)=Z (a,es)->∃f r,jc ρ es=Z f/\Tt s v=Z r/\nz a f=Z r/\f.length=a.n/\sH s v=tH S c/\rowsOf v.cells=gJ (c.cells.getD [])/\T8 c v:=by
  intro t g;rcases e:c.cells with _|i
  ·rw[e]at g;cases g
  ·have N:=g;rw[e]at N;obtain⟨l,m,k⟩:=aj.1 N;simp only[aC]at k;have:=val e m k.1.symm k.2.symm t;rw[e]at this;exact this
 cases c with
 |ptr b o=>
  cases o with
  |zero=>
   rcases j:look S.bx b with _|i
   ·simp only[aa2,j]at g;cases g
   ·simp only[aa2,j]at g;obtain⟨l,m,k⟩:=aj.1 g;simp only[aC]at k;have:=box rfl j m k.1.symm k.2.symm;exact this
  |succ o=>cases g
 |b x=>exact w (λ_ _ h=>by cases h) g
 |agg x=>exact w (λ_ _ h=>by cases h) g
 |ri x=>exact w (λ_ _ h=>by cases h) g
 |pj _ _ _ _=>exact w (λ_ _ h=>by cases h) g
 |ub _ _=>exact w (λ_ _ h=>by cases h) g
 |any=>exact w (λ_ _ h=>by cases h) g
def Po:M SC->M C->Prop
 |[],a=>a=[]
 |c::cs,a=>∃v b,a=v::b/\T8 c v/\Po cs b
theorem take_left'{c:Type}{a b:M c}{n:Nat}(h:a.length=n):(a++b).take n=a:=by subst h;exact oA
theorem drop_left'{c:Type}{a b:M c}{n:Nat}(h:a.length=n):(a++b).drop n=b:=by subst h;exact yj
theorem MI(h:Rel ρ S s):∀{e:M SC} {d:M C} {as:M SA} {es:M SE},Ig ρ e d->MH S e=Z (as,es)->
  ∃g i,jc ρ es=Z g/\zP s d=Z i/\iI as g=Z i/\dN s d=tG S e/\jE d=BM e/\cX d=rE e/\Po e d
 |[],_,_,_,j,f=>by
  simp only[Ig]at j;subst j;cases f;exact⟨[],[],rfl,rfl,rfl,rfl,rfl,rfl,rfl⟩
 |c::e,_,as,es,⟨v,d,j,N,L⟩,f=>by
  subst j;simp only[MH]at f
  split at f
  ·rename_i a U K;obtain⟨p,H,o⟩:=aj.1 f;obtain⟨T,P⟩:=p;simp only[aC]at o;obtain⟨rfl,rfl⟩:=o;obtain⟨g,r,q1,q2,G,n,F,B,m⟩:=aa3 h N K;obtain⟨k,i,A,y,x,w,t,l,q⟩:=MI h L H;refine⟨g++k,r::i,qU q1 A,by simp only[zP,q2,y,aQ],?_,by simp only[dN,tG,F,w],by simp only[jE,BM,B,t],?_,v,d,rfl,m,q⟩
   ·simp only[iI,take_left' n,drop_left' n,G,x,aQ]
   ·rcases m with ⟨b,rfl,rfl⟩|⟨n1,n2⟩
    ·simp only[cX,rE,l]
    ·have R:rE (c::e)=rE e:=by
      cases c<;>first|rfl|exact absurd rfl (n1 _ _)
     have Q:cX (v::d)=cX d:=by
      cases v<;>first|rfl|exact absurd rfl (n2 _ _)
     rw[R,Q,l]
  ·cases f
def Loc(ρ:M D)(c:Nat)(a:M D):Prop:=∀i x,nth a i=Z x->nth ρ (c+i)=Z x
theorem Loc.tail{c:Nat}{x:D}{a:M D}(h:Loc ρ c (x::a)):Loc ρ (c+1) a:=λi y b=>by
 have:=h (i+1) y b;rw[cO,Nat.add_comm 1 i];exact this
theorem Loc.drop:∀{a:M D} {c:Nat} (n:Nat),Loc ρ c a->Loc ρ (c+n) (a.drop n)
 |a,c,0,h=>h
 |[],c,n+1,h=>λi y b=>by cases b
 |x::a,c,n+1,h=>by
  have:=Loc.drop n h.tail;rw[cO,Nat.add_comm 1 n]at this;exact this
theorem Mj{a:Type}:∀{us:M a} {n i:Nat} {x:a},nth (us.take n) i=Z x->nth us i=Z x
 |[],n,i,x,h=>by simp[nth]at h
 |y::us,0,i,x,h=>by simp[nth]at h
 |y::us,n+1,0,x,h=>h
 |y::us,n+1,i+1,x,h=>Mj (us:=us) h
theorem Loc.take{a:M D}{c:Nat}(n:Nat)(h:Loc ρ c a):Loc ρ c (a.take n):=λi x b=>h i x (Mj b)
theorem Loc.new(a:M D):Loc (ρ++a) ρ.length a:=by
 intro i x c
 induction ρ with
 |nil=>simpa using c
 |cons y ρ b=>rw[aG,Nat.add_right_comm];exact b
def N9(d:Nat):Nat->M Ih->Nat->SS->M SB×SS
 |_,[],_,S=>([],S)
 |j,.d::l,c,S=>match N9 d (j+1) l (c+1) S with
  |(xs,a)=>(.d (.v c)::xs,a)
 |j,.row k b deep app fz::l,c,S=>match N9 d (j+1) l (c+1) (S.newRow (w8 d j) ⟨.v c,k,b,deep,app,fz⟩) with
  |(xs,a)=>(.ref (w8 d j)::xs,a)
theorem AF{d:Nat}:∀{l:M Ih} {j c:Nat} {S p:SS} {s:St} {B:M D} {n:M RV} {m:M SB},Rel ρ S s->nW l B=Z n->Loc ρ c B->N9 d j l c S=(m,p)->
  ∃i f,fv d j n s=(i,f)/\Rel ρ p f/\eQ ρ m i
 |[],j,c,S,p,s,[],n,m,h,b,o,e=>by
  cases b;cases e;exact⟨[],s,rfl,h,rfl⟩
 |[],_,_,_,_,_,_::_,_,_,_,b,_,_=>by cases b
 |_::_,_,_,_,_,_,[],_,_,_,b,_,_=>by cases b
 |v::l,j,c,S,p,s,a::B,n,m,h,b,o,e=>by
  simp only[nW]at b
  split at b
  ·rename_i r g;obtain⟨Q,K,rfl⟩:=aj.1 b;have H:=o 0 a rfl;cases v with
   |d=>
    cases g;simp only[N9]at e;generalize C:N9 d (j+1) l (c+1) S=q at e;obtain⟨ys,N⟩:=q;cases e;obtain⟨i,f,A,w,t⟩:=AF h K o.tail C;exact⟨.d a::i,f,by simp only[fv,A],w,_,_,rfl,⟨a,H,rfl⟩,t⟩
   |row k P deep app fz=>
    cases a with
    |list G F es=>
     simp only[Dm]at g
     split at g
     ·rename_i L;obtain⟨rfl,rfl⟩:=L;cases g;simp only[N9]at e;generalize C:N9 d (j+1) l (c+1) _=q at e;obtain⟨ys,N⟩:=q;cases e;obtain⟨i,f,A,w,t⟩:=AF (h.newRow (w8 d j) (x:=⟨.v c,G,F,deep,app,fz⟩) (y:=⟨es,G,F,deep,app,fz⟩) ⟨es,H,rfl⟩) K o.tail C;exact⟨.ref (w8 d j)::i,f,by simp only[fv,A],w,_,_,rfl,rfl,t⟩
     ·cases g
    |_=>cases g
  ·cases b
def yg:SS->M SC->M SA->Nat->u SS
 |S,[],_,_=>Z S
 |S,.ptr b 0::cs,.box l::outs,c=>match N9 (b+500) 0 l c S with
  |(xs,a)=>yg (a.gl b xs) cs outs (c+l.length)
 |S,.ptr _ _::_,_,_=>O
 |S,_::cs,outs,c=>yg S cs outs c
def aaT(d:Nat):Nat->M SA->Nat->SS->u (M (SB ⊕ M SB)×SS)
 |_,[],_,S=>Z ([],S)
 |q,.val a l::rs,c,S=>match N9 d (30 * q) l c S with
  |(xs,b)=>match aaT d (q+1) rs (c+l.length) b with
   |some (ms,S2)=>if a=I then Z (.inr xs::ms,S2) else match xs with
    |[x]=>Z (.inl x::ms,S2)
    |_=>O
   |none=>O
 |_,.box _::_,_,_=>O
theorem jf{a:SA}{as:M SA}{c:M D}{d:M A}(h:iI (a::as) c=Z d):∃r b,nz a (c.take a.n)=Z r/\iI as (c.drop a.n)=Z b/\d=r::b:=by
 simp only[iI]at h
 split at h
 ·rename_i r e;obtain⟨b,f,rfl⟩:=aj.1 h;exact⟨r,b,e,f,rfl⟩
 ·cases h
theorem Q8{d:Nat}:∀{l:M SA} {q c:Nat} {S k:SS} {s:St} {e:M D} {f:M A} {g:M (SB ⊕ M SB)},Rel ρ S s->iI l e=Z f->Loc ρ c e->aaT d q l c S=Z (g,k)->
  ∃j t,gL d q f s=(j,t)/\Rel ρ k t/\uF ρ g j
 |[],q,c,S,k,s,e,f,g,h,i,n,b=>by
  cases e with
  |nil=>
   cases i;cases b;exact⟨[],s,rfl,h,rfl⟩
  |cons a e=>cases i
 | .box _::_,_,_,_,_,_,_,_,_,_,_,_,b=>by cases b
 | .val Q l::as,q,c,S,k,s,e,f,g,h,i,n,b=>by
  obtain⟨r,X,w,L,rfl⟩:=jf i;simp only[nz]at w;obtain⟨T,K,rfl⟩:=aj.1 w;simp only[aaT]at b;generalize H:N9 d (30 * q) l c S=p at b;obtain⟨R,W⟩:=p;simp only at b
  obtain⟨j,V,y,x,o⟩:=AF h K (n.take _) H
  split at b
  ·rename_i F S2 G;obtain⟨v,C,v1,v2,v3⟩:=Q8 x L (n.drop _) G;refine⟨_,C,by simp only[gL,y,v1];rfl,?_⟩
   split at b
   ·rename_i m;cases b;subst m;exact⟨v2,j,v,rfl,o,v3⟩
   ·rename_i m
    split at b
    ·cases b;obtain⟨P,N,rfl,B,U⟩:=o;have:Q=J:=by simpa using m
     subst this;exact⟨v2,P,v,rfl,B,v3⟩
    ·cases b
  ·cases b
theorem Bn:∀{f:M SC} {e:M C} {l:M SA} {c:Nat} {S j:SS} {s:St} {g:M D} {outs:M A},Rel ρ S s->Po f e->iI l g=Z outs->Loc ρ c g->yg S f l c=Z j->Rel ρ j (l8 s e outs)
 |[],e,l,c,S,j,s,g,outs,h,m,k,i,d=>by
  simp only[Po]at m;subst m;cases d;exact h
 |x::f,_,l,c,S,j,s,g,outs,h,⟨v,e,B,K,o⟩,k,i,d=>by
  subst B;rcases K with ⟨b,rfl,rfl⟩|⟨n1,n2⟩
  ·cases l with
   |nil=>cases d
   |cons a l=>
    cases a with
    |val U l=>cases d
    |box y=>
     obtain⟨r,W,n,H,rfl⟩:=jf k;simp only[nz]at n;obtain⟨Q,G,rfl⟩:=aj.1 n;simp only[yg]at d;generalize F:N9 (b+500) 0 y c S=p at d;obtain⟨P,V⟩:=p;simp only at d
     obtain⟨T,R,w,t,q⟩:=AF h G (i.take _) F;simp only[l8,w];exact Bn (t.gl b q) o H (i.drop _) d
  ·have N:yg S (x::f) l c=yg S f l c:=by
    cases x<;>first|rfl|exact absurd rfl (n1 _ _)
   have L:l8 s (v::e) outs=l8 s e outs:=by
    cases v<;>first|rfl|exact absurd rfl (n2 _ _)
   rw[N]at d;rw[L];exact Bn h o k i d
def SR.share(r:SR):SR:={r with fz:=I,deep:=r.fl }
def pe(S:SS):M Nat->u SS
 |[]=>Z S
 |r::rs=>match look S.rw r with
  |some x=>pe (S.setRow r x.share) rs
  |none=>O
theorem pW:∀{rs:M Nat} {S S':SS} {s:St},Rel ρ S s->pe S rs=Z S'->Rel ρ S' (fc s rs)
 |[],S,S',s,h,a=>by cases a;exact h
 |r::rs,S,S',s,h,a=>by
  simp only[pe]at a
  split at a
  ·rename_i x b;obtain⟨y,d,es,c,rfl⟩:=h.rw r x b;simp only[fc,d];exact pW (h.setRow r (x:=x.share) (y:=Row.share _) ⟨es,c,rfl⟩) a
  ·cases a
def Ao(S:SS):M Nat->SS
 |[]=>S
 |r::rs=>Ao (S.cY r) rs
def xA(S:SS):M Nat->SS
 |[]=>S
 |b::a=>xA {S with bx:=sa S.bx b } a
theorem yI:∀{rs:M Nat} {S:SS} {s:St},Rel ρ S s->Rel ρ (Ao S rs) (fN s rs)
 |[],_,_,h=>h
 |r::rs,_,_,h=>yI (rs:=rs) (h.cY r)
theorem xi:∀{bs:M Nat} {S:SS} {s:St},Rel ρ S s->Rel ρ (xA S bs) (fI s bs)
 |[],_,_,h=>h
 |b::bs,S,s,h=>by
  refine xi (bs:=bs) (S:={S with bx:=sa S.bx b }) (s:={s with bx:=sa s.bx b }) ⟨h.sl,λe c a=>?_,h.rw⟩;simp only[eN]at a ⊢
  split at a
  ·cases a
  ·rename_i d;rw[if_neg d];exact h.bx e c a
end
end
section
def Ir:Nat->M Ih->Bool×M SE
 |_,[]=>(I,[])
 |c,.d::l=>match Ir (c+1) l with
  |(b,pl)=>(b,.v c::pl)
 |c,.row _ _ deep _ _::l=>match Ir (c+1) l with
  |(b,pl)=>(deep && b,pl)
def KS:Nat->M SA->Bool×M SE
 |_,[]=>(I,[])
 |c,a::as=>match Ir c a.l with
  |(b,pl)=>match KS (c+a.n) as with
   |(e,d)=>(b && e,pl++d)
def JV:M SA->Bool
 |[]=>I
 | .val _ l::as=>nP l.length 30 && JV as
 | .box _::_=>J
def aaX(hint:M Nat)(d:Nat)(a:M Nat)(b:Bool)(pl:M SE):Bs×Bool:=
 if a=[] then ([],J) else if b=J then ([],I) else match pl with
  |[]=>([],J)
  |pl=>if hint.contains (1000 * d+pl.length) then ([(.TU,pl)],I) else ([(.pl,pl)],J)
def adA:M (SB ⊕ M SB)->SC
 |[.inl x]=>.b x
 |[.inr xs]=>.agg xs
 |ms=>.ri ms
def Q2(l:M C):C:=match l with|[c]=>c|l=>.ri l
def Ft(hint:M Nat)(S:SS)(a:M SC)(d:u Nat)(n:Nat)(v:M SA×M SA):u (Bs×SS):=
 if JV v.1=I then
  match KS n v.1,KS (n+yE v.1) v.2 with
  |(e,qG),(c,tN)=>match aaX hint (d.getD 0) (BM a) (e && c) (qG++tN) with
   |(b,shr)=>match (if shr=I then pe S (BM a) else Z S) with
    |some g=>match yg (xA (Ao g (tG S a)) (rE a)) a v.2 (n+yE v.1) with
     |some S2=>match aaT (d.getD 0) 0 v.1 n S2 with
      |some (ms,f)=>Z (b,f.put d ⟨[],adA ms⟩)
      |none=>O
     |none=>O
    |none=>O
 else O
section
variable {ρ iY:M D} {S S':SS} {s:St}
theorem Cr:∀{l:M Ih} {c:Nat} {j:M D} {i:M RV} {b:Bool} {pl:M SE},nW l j=Z i->Loc ρ c j->Ir c l=(b,pl)->∃g,jc ρ pl=Z g/\i.all RV.closed=(b && dW g)
 |[],_,[],_,_,_,e,_,f=>by cases e;cases f;exact⟨[],rfl,rfl⟩
 |[],_,_::_,_,_,_,e,_,_=>by cases e
 |_::_,_,[],_,_,_,e,_,_=>by cases e
 |v::l,c,a::j,i,b,pl,e,o,f=>by
  simp only[nW]at e
  split at e
  ·rename_i r h;obtain⟨F,w,rfl⟩:=aj.1 e;have y:nth ρ c=Z a:=o 0 a rfl;cases v with
   |d=>
    cases h;simp only[Ir]at f;generalize n:Ir (c+1) l=q at f;obtain⟨x,m⟩:=q;cases f;obtain⟨g,t,p⟩:=Cr w o.tail n;refine⟨a::g,by simp only[jc,SE.d,y,t,aQ],?_⟩;rw[cV,p,oQ];simp only[RV.closed];cases D.plain a<;>cases x<;>simp
   |row k C deep app fz=>
    simp only[Ir]at f;generalize n:Ir (c+1) l=q at f;obtain⟨x,m⟩:=q;cases f;obtain⟨g,t,p⟩:=Cr w o.tail n;refine⟨g,t,?_⟩;cases a with
    |list B A es=>
     simp only[Dm]at h
     split at h
     ·cases h;rw[cV,p];simp only[RV.closed,iE]
     ·cases h
    |_=>cases h
  ·cases e
theorem Iq:∀{l:M SA} {c:Nat} {h:M D} {i:M A} {b:Bool} {pl:M SE},iI l h=Z i->Loc ρ c h->KS c l=(b,pl)->∃d,jc ρ pl=Z d/\i.all A.closed=(b && dW d)
 |[],_,[],_,_,_,f,_,e=>by cases f;cases e;exact⟨[],rfl,rfl⟩
 |[],_,_::_,_,_,_,f,_,_=>by cases f
 |a::as,c,h,i,b,pl,f,m,e=>by
  obtain⟨r,H,g,w,rfl⟩:=jf f;simp only[KS]at e;generalize p:Ir c a.l=q at e;obtain⟨t,qG⟩:=q;simp only at e
  generalize k:KS (c+a.n) as=q at e;obtain⟨F,tN⟩:=q;cases e;obtain⟨j,y,x⟩:=Iq w (m.drop _) k;have:∃d,jc ρ qG=Z d/\A.closed r=(t && dW d):=by
   cases a with
   |val G l=>
    simp only[nz]at g;obtain⟨v,o,rfl⟩:=aj.1 g;obtain⟨d,q1,q2⟩:=Cr o (m.take _) p;exact⟨d,q1,q2⟩
   |box l=>
    simp only[nz]at g;obtain⟨v,o,rfl⟩:=aj.1 g;obtain⟨d,q1,q2⟩:=Cr o (m.take _) p;exact⟨d,q1,q2⟩
  obtain⟨d,C,B⟩:=this;refine⟨d++j,qU C y,?_⟩;rw[cV,B,x,x_];cases t<;>cases F<;>simp
theorem HW:∀{l:M SA} {d:M D} {e:M A},iI l d=Z e->JV l=I->e.all A.short=I
 |[],[],_,b,_=>by cases b;rfl
 |[],_::_,_,b,_=>by cases b
 | .box _::_,_,_,_,h=>by cases h
 | .val m l::as,d,e,b,h=>by
  obtain⟨r,o,f,i,rfl⟩:=jf b;simp only[JV,ai]at h;simp only[nz]at f;obtain⟨g,a,rfl⟩:=aj.1 f;have k:g.length=l.length:=by
   clear h f b i;generalize d.take (SA.val m l).n=c at a
   induction l generalizing c g with
   |nil=>cases c<;>cases a;rfl
   |cons v l j=>
    cases c with
    |nil=>cases a
    |cons x c=>
     simp only[nW]at a
     split at a
     ·obtain⟨ys,q1,rfl⟩:=aj.1 a;simp[j _ _ q1]
     ·cases a
  rw[cV,HW i h.2,gm];simp only[A.short,k,h.1]
theorem aaY{hint:M Nat}{d:Nat}{n:M Nat}{b e:Bool}{pl:M SE}{p:Bs}{j r:M D}(a:aaX hint d n b pl=(p,e))(o:kV ρ p=Z (ρ++r))(l:jc ρ pl=Z j)(h:Rel ρ S s){q:SS}(i:(if e=I then pe S n else Z S)=Z q) :
  Rel ρ q (if (b && dW j)=I then s else fc s n):=by
 unfold aaX at a
 split at a
 ·rename_i v;subst v;cases a;cases i;split
  ·exact h
  ·exact h
 ·split at a
  ·rename_i m;cases a;subst m;simp only[cM,aD,if_false];exact pW h i
  ·rename_i k;have k:b=I:=by simpa using k
   subst k
   split at a
   ·cases a;cases l;cases i;exact h
   ·split at a
    ·cases a;obtain⟨t,x,g,c,w⟩:=eO o;rw[l]at g;cases g;simp only[aU]at c
     split at c
     ·cases c
     ·rename_i f;have f:dW j=J:=by simpa using f
      rw[f];simp only[kH,aD,if_false];exact pW h i
    ·cases a;obtain⟨t,x,g,c,w⟩:=eO o;rw[l]at g;cases g;simp only[aU]at c
     split at c
     ·rename_i f;rw[f];cases i;exact h
     ·cases c
theorem aaF{b:M (SB ⊕ M SB)}{f:M C}(h:uF ρ b f):lN ρ (adA b) (Q2 f):=by
 unfold adA;split
 ·obtain⟨c,g,rfl,d,a⟩:=h;simp only[uF]at a;subst a;exact d
 ·obtain⟨i,g,rfl,d,a⟩:=h;simp only[uF]at a;subst a;exact⟨i,rfl,d⟩
 ·rename_i n1 n2;have:Q2 f=.ri f:=by
   unfold Q2;split
   ·rename_i c;cases b with
    |nil=>simp only[uF]at h;cases h
    |cons m b=>
     cases m with
     |inl x=>
      obtain⟨c,g,e,d,a⟩:=h;cases e;cases b with
      |nil=>exact absurd rfl (n1 x)
      |cons m b=>cases m<;>(obtain⟨_,_,e,_⟩:=a;cases e)
     |inr x=>
      obtain⟨c,g,e,d,a⟩:=h;cases e;cases b with
      |nil=>exact absurd rfl (n2 x)
      |cons m b=>cases m<;>(obtain⟨_,_,e,_⟩:=a;cases e)
   ·rfl
  rw[this];exact⟨f,rfl,h⟩
theorem OM{cf:Cf}{mf:Mf}{U:M (Nat×nh)}{G:Gf}(hG:YK cf U G)(h:Rel ρ S s){V:Gs}(hk:jt ρ V=Z I){hint:M Nat}{n:Nat}(hn:n=ρ.length){d:u Nat}{f:Nat}{N:M KX}{b:M SC}{es:M SE}{i:Nat}{e:nh}
  (hx:H0 S V N=Z b) (ha:MH S b=Z (e.args,es)) (hi:look U i=Z e) (hf:e.f=f) (hd:(kG (tG S b) && kG (rE b) && (tG S b).all (λr=>!(BM b).contains r))=I)
  {o c:M D} {j:Nat} (hw:jc ρ es=Z o) (hg:G i o=Z (j,c)) {v:M SA×M SA} (hv:nth e.res j=Z v) {bs:Bs} (a:Ft hint S b d n v=Z (bs,S')) (W:kV (ρ++c) bs=Z iY) :
  ∃T,lQ cf mf s d (.call f N)=Z T/\Rel iY S' T:=by
 obtain⟨ws',as,q1,q2,q3,q4,q5,q6,q7⟩:=MI h (Bk h hk hx) ha;rw[hw]at q1;cases q1;obtain⟨Ps,r,v',R,Q,k,P⟩:=hG i e hi o j c hg;rw[q3]at R;cases R;rw[hv]at Q;cases Q;rw[hf]at P;obtain⟨rs,outs⟩:=r;unfold yL at k
 split at k
 ·rename_i Gn t H X;cases k;unfold Ft at a
  split at a
  ·rename_i w;generalize lS:KS n v.1=p1 at a;generalize pn:KS (n+yE v.1) v.2=p2 at a;obtain⟨L,qG⟩:=p1;obtain⟨K,tN⟩:=p2;simp only at a
   generalize ZH:aaX hint (d.getD 0) (BM b) (L && K) (qG++tN)=p3 at a;obtain⟨bs',shr⟩:=p3;simp only at a
   split at a
   ·rename_i S0 B
    split at a
    ·rename_i S2 y
     split at a
     ·rename_i ms S3 x;cases a;have m:Loc (ρ++c) n c:=by rw[hn];exact Loc.new c
      obtain⟨q,t1,t2⟩:=Iq H (m.take _) lS;obtain⟨p,t3,t4⟩:=Iq X (m.drop _) pn;obtain⟨Y,V6⟩:=qu W;subst V6;have g:=aaY ZH W (qU t1 t3) (h.mono c) B;have rH:(L && K && dW (q++p))=(rs.all A.closed && outs.all A.closed):=by
       rw[t2,t4,x_];cases L<;>cases K<;>simp
      rw[rH]at g;have F:=xi (bs:=rE b) (yI (rs:=tG S b) g);have C:=Bn F q7 X (m.drop _) y;obtain⟨l,s4,u1,u2,u3⟩:=Q8 C H (m.take _) x;refine⟨s4.put d (Q2 l),?_,(u2.put d (ry.nil (aaF u3))).mono Y⟩;simp only[lQ,xC,q2,q4,q5,q6,hd,P,if_true,HW H w,u1];rfl
     ·cases a
    ·cases a
   ·cases a
  ·cases a
 ·cases k
end
end
section
abbrev SX:=u (u Nat)
def RP:SX->Ex
 |none=>.norm
 |some O=>.ret
 |some (Z i)=>.exit i
structure SO where
 x:SX
 S:SS
 m:Nat
 deriving DecidableEq
def FY(o:SO):M SO->Nat×M SO
 |[]=>(0,[o])
 |p::a=>if o=p then (0,p::a) else match FY o a with
  |(j,b)=>(j+1,p::b)
def pg:M SO->M SO->M Nat×M SO
 |[],acc=>([],acc)
 |o::os,acc=>match FY o acc with
  |(j,b)=>match pg os b with
   |(c,a)=>(j::c,a)
def L6(f:M Nat)(t:ST):ST:=if f=cu f.length then t else .map f t
def Ew(x:SX)(a:Gs)(S:SS):ST×M SO:=match Rz a S with
 |(b,es)=>(.leaf 0 es,[⟨x,b,es.length⟩])
def Zf(k:(M SA×M SA)->u (ST×M SO)):M (M SA×M SA)->M SO->u (ST×M SO)
 |[],acc=>Z (.nil,acc)
 |v::a,acc=>match k v with
  |some (t,os)=>match pg os acc with
   |(f,d)=>match Zf k a d with
    |some (b,c)=>Z (.cons (L6 f t) b,c)
    |none=>O
  |none=>O
def EW(a:Gs):Bs->ST->ST
 |[],t=>t
 |(o,es)::b,t=>.op a o es (EW a b t)
def MU:SG:=⟨[(.k (.bool J),I)],.any⟩
def Fits(G:Gf)(t:ST)(outs:M SO)(c:M D)(run:u (Ex×St)):Prop:=
 ∀j a,eZ G t 0 c=Z (j,a)->∃o b,nth outs j=Z o/\run=Z (RP o.x,b)/\a.length=o.m/\Rel a o.S b
theorem Cn(o:SO):∀{l b:M SO} {j:Nat},FY o l=(j,b)->nth b j=Z o/\∀i x,nth l i=Z x->nth b i=Z x
 |[],b,j,h=>by cases h;exact⟨rfl,λi x a=>by cases a⟩
 |p::c,b,j,h=>by
  simp only[FY]at h
  split at h
  ·rename_i e;cases h;subst e;exact⟨rfl,λ_ _ a=>a⟩
  ·generalize d:FY o c=q at h;obtain⟨m,k⟩:=q;cases h;obtain⟨g,f⟩:=Cn o d;refine⟨g,λi x a=>?_⟩;cases i with
   |zero=>exact a
   |succ i=>exact f i x a
theorem pY:∀{os a b:M SO} {c:M Nat},pg os a=(c,b)->(∀i o,nth os i=Z o->∃j,nth c i=Z j/\nth b j=Z o)/\∀i x,nth a i=Z x->nth b i=Z x
 |[],a,b,c,h=>by cases h;exact⟨λi o m=>(by cases m),λ_ _ d=>d⟩
 |o::os,a,b,c,h=>by
  simp only[pg]at h;generalize l:FY o a=q at h;obtain⟨j,t⟩:=q;simp only at h
  generalize e:pg os t=q at h;obtain⟨k,v⟩:=q;cases h;obtain⟨s,r⟩:=Cn o l;obtain⟨n,g⟩:=pY e;refine⟨λi p f=>?_,λi x d=>g i x (r i x d)⟩;cases i with
  |zero=>
   cases f;exact⟨j,rfl,g j _ s⟩
  |succ i=>exact n i p f
theorem S6:∀{n i:Nat},i < n->nth (cu n) i=Z i:=by
 intro n i h;rw[eh];simp[h]
theorem A7{a:Type}:∀{l:M a} {i:Nat} {x:a},nth l i=Z x->i < l.length
 |_::_,0,_,_=>by simp
 |_::l,i+1,x,h=>by simpa using A7 (l:=l) h
 |[],_,_,h=>by simp[nth]at h
section
variable {G:Gf} {ρ:M D} {run:u (Ex×St)}
theorem Fits.map{t:ST}{outs outs':M SO}{f:M Nat}(h:Fits G t outs ρ run)(g:∀i o,nth outs i=Z o->∃j,nth f i=Z j/\nth outs' j=Z o):Fits G (L6 f t) outs' ρ run:=by
 intro j k hd;unfold L6 at hd
 split at hd
 ·rename_i m;obtain⟨o,c,d,a,q,p⟩:=h j k hd;obtain⟨l,q1,q2⟩:=g j o d;have n:=A7 q1;rw[m,S6 n]at q1;cases q1;exact⟨o,c,q2,a,q,p⟩
 ·simp only[eZ]at hd
  split at hd
  ·rename_i e b r;obtain⟨y,d,a⟩:=aj.1 hd;simp only[aC]at a;obtain⟨rfl,rfl⟩:=a;obtain⟨o,c,x,w,v,s⟩:=h e b r;obtain⟨l,q1,q2⟩:=g e o x;rw[d]at q1;cases q1;exact⟨o,c,q2,w,v,s⟩
  ·cases hd
theorem Fits.more{t:ST}{outs a:M SO}(h:Fits G t outs ρ run)(d:∀i o,nth outs i=Z o->nth a i=Z o):Fits G t a ρ run:=λj b hd=>by
 obtain⟨o,c,f,e⟩:=h j b hd;exact⟨o,c,d j o f,e⟩
theorem vp{x:SX}{a:Gs}{S:SS}{s:St}{t:ST}{outs:M SO}(h:Rel ρ S s)(e:jt ρ a=Z I)(b:Ew x a S=(t,outs)):Fits G t outs ρ (Z (RP x,s)):=by
 intro j f hd;unfold Ew at b;generalize d:Rz a S=q at b;obtain⟨i,es⟩:=q;cases b;simp only[eZ]at hd
 split at hd
 ·rename_i g c;cases hd;exact⟨_,s,rfl,rfl,lx c,Py h e d c⟩
 ·cases hd
theorem CN{gs:Gs}:∀{d:Bs} {t:ST} {ρ:M D} {r:Nat×M D} {b:Bool},jt ρ gs=Z b->eZ G (EW gs d t) 0 ρ=Z r->∃a,a.length=d.length/\eZ G t 0 (ρ++a)=Z r/\(b=I->kV ρ d=Z (ρ++a))
 |[],t,ρ,r,b,c,h=>⟨[],rfl,by rw[aJ];exact h,λ_=>by simp[kV]⟩
 |(o,es)::d,t,ρ,r,b,c,h=>by
  simp only[EW,eZ,c]at h;cases b with
  |true=>
   simp only at h
   split at h
   ·rename_i k i
    split at h
    ·rename_i x j;obtain⟨a,f,e,g⟩:=CN (lR [x] c) h;refine⟨x::a,by simp[f],by simpa using e,λ_=>?_⟩;simp only[kV,i,j]
     simpa using g rfl
    ·cases h
   ·cases h
  |false=>
   simp only at h
   obtain⟨a,f,e,g⟩:=CN (lR [.bool J] c) h;exact⟨.bool J::a,by simp[f],by simpa using e,λh=>by cases h⟩
theorem IG{o:Cf}{n:Mf}{S:SS}{s:St}(h:Rel ρ S s){d:u Nat}{op:KO}{g:Nat}{w:Bool}{m:Gs}{e:SE}(y:look S.sl g=Z ⟨m,.b (.d e)⟩){b:Bool}(f:jt ρ (m++[(e,w)])=Z b) :
  ux o n s ⟨d,op,Z (g,w)⟩=if b=I then B8 o n s d op else Z (s.put d .uv):=by
 obtain⟨F,C,B,A⟩:=h.sl g _ y;have app:∀{j:Gs} {c:Bool},jt ρ j=Z c->jt ρ (j++[(e,w)])=if c=I then jt ρ [(e,w)] else Z J:=by
  intro j
  induction j with
  |nil=>intro c i;cases i;rfl
  |cons p j q=>
   intro c i;obtain⟨a,v⟩:=p;simp only[jt,au]at i ⊢
   split at i
   ·split at i
    ·rename_i l;rw[if_pos l];exact q i
    ·rename_i l;rw[if_neg l];cases i;rfl
   ·cases i
 rw[app C]at f;cases F with
 |false=>
  simp only[aD,if_false]at f;cases f;simp only[ux,A rfl,aD,if_false]
 |true=>
  simp only[if_true]at f;obtain⟨x,q1,q2⟩:=B rfl;simp only[jt,q1]at f
  split at f
  ·rename_i t r;cases r;simp only[ux,q2]
   split at f
   ·rename_i k;cases f;rw[if_pos k,if_pos rfl]
   ·rename_i k;cases f;rw[if_neg k,if_neg (by simp)]
  ·cases f
theorem Pg{c:C}(h:c=.uv):ry ρ MU c:=⟨J,rfl,λh=>(by cases h),λ_=>h⟩
theorem xI{gs b:Gs}(h:jt ρ gs=Z I)(c:jt ρ b=Z I):jt ρ (gs++b)=Z I:=Hg λp a=>by
 rcases aT.1 a with a|a
 ·exact oc h p a
 ·exact oc c p a
theorem DG:∀{a:Gs},jt ρ a=Z J->∃p∈a,p.1.d ρ=Z (.bool (!p.2))
 |[],h=>by cases h
 |(g,w)::a,h=>by
  simp only[jt]at h
  split at h
  ·rename_i b c
   split at h
   ·obtain⟨p,f,e⟩:=DG h;exact⟨p,bT _ f,e⟩
   ·rename_i i;refine⟨(g,w),bQ,?_⟩;rw[c];cases b<;>cases w<;>simp_all
  ·cases h
end
end
section
def PS(f:Nat)(as:M SA):M (Nat×nh)->u Nat
 |[]=>O
 |(i,a)::l=>if a.f=f/\a.args=as then Z i else PS f as l
def Fu(hint:M Nat)(g:M (Nat×nh))(S:SS)(h:Gs)(n:Nat)(d:u Nat)(op:KO)(k:SS->Nat->u (ST×M SO)):u (ST×M SO):=
 match op with
 | .call f xs=>match H0 S h xs with
  |some a=>match MH S a with
   |some (as,es)=>match PS f as g with
    |some i=>match look g i with
     |some c=>if c.f=f/\c.args=as/\(kG (tG S a) && kG (rE a) && (tG S a).all (λr=>!(BM a).contains r))=I then
       (match Zf (λv=>match Ft hint S a d n v with
        |some (b,e)=>match k e (n+(yE v.1+yE v.2)+b.length) with
         |some (t,outs)=>Z (EW [] b t,outs)
         |none=>O
        |none=>O) c.res []with
       |some (j,outs)=>Z (.call i es j,outs)
       |none=>O) else O
     |none=>O
    |none=>O
   |none=>O
  |none=>O
 |op=>match pN hint S h n d op with
  |some (b,e)=>match k e (n+b.length) with
   |some (t,outs)=>Z (EW [] b t,outs)
   |none=>O
  |none=>O
def MF(hint:M Nat)(e:M (Nat×nh))(S:SS)(a:Gs)(n:Nat)(d:u Nat)(op:KO)(k:SS->Nat->u (ST×M SO)):u (ST×M SO):=
 if op.kT=I then (match aa7 S a n op with
  |some (b,c)=>match k (S.put d ⟨[],c⟩) (n+b.length) with
   |some (t,outs)=>Z (EW [] b t,outs)
   |none=>O
  |none=>O) else Fu hint e S a n d op k
def abT(S:SS)(a:Gs):Bool:=(S.sl.take 3).any λp=>match look S.sl p.1 with
 |some g=>Z' (g.gs=a)
 |none=>J
def full(S:SS)(b:Gs)(a:Bs):Bs:=match a with
 |[]=>if abT S b=I then [] else [(.pl,[])]
 |a=>a
def Fj(b c:Gs->u (ST×M SO)):Gs->Gs->u (ST×M SO)
 |[],a=>b a
 |p::d,a=>if p∈a then Fj b c d a else match Fj b c d (p::a),c ((p.1,!p.2)::a) with
  |some (g,i),Z (e,h)=>match pg h i with
   |(f,outs)=>Z (.gd [p] g (L6 f e),outs)
  |_,_=>O
def ON(hint:M Nat)(m:M (Nat×nh))(S:SS)(a:Gs)(n:Nat)(i:KI)(k:SS->Gs->Nat->u (ST×M SO)):u (ST×M SO):=
 match i with
 |⟨d,op,O⟩=>MF hint m S a n d op (λj h=>k j a h)
 |⟨d,op,Z (g,w)⟩=>match look S.sl g with
  |some ⟨f,.b (.d e)⟩=>
   if (f++[(e,w)]).all (λp=>Z' (p∈a))=I then MF hint m S a n d op (λj h=>k j a h)
   else if (f++[(e,w)]).any (λp=>Z' ((p.1,!p.2)∈a))=I then k (S.put d MU) a n
   else if op.kT=I then (match aa7 S ((f++[(e,w)])++a) n op with
    |some (o,c)=>match k (S.put d ⟨f++[(e,w)],c⟩) a (n+(full S (f++[(e,w)]) o).length) with
     |some (t,outs)=>Z (EW (f++[(e,w)]) (full S (f++[(e,w)]) o) t,outs)
     |none=>O
    |none=>O)
   else Fj (λl=>MF hint m S l n d op (λj h=>k j l h)) (λl=>k (S.put d MU) l n) (f++[(e,w)]) a
  |some ⟨f,.any⟩=>if f=MU.gs then k (S.put d MU) a n else O
  |_=>O
def Fv(hint:M Nat)(b:M (Nat×nh))(c:mo):M KI->SS->Gs->Nat->u (ST×M SO)
 |[],S,a,n=>Z (Ew O a (S.dL c))
 |i::is,S,a,n=>ON hint b S a n i (λe f d=>Fv hint b c is e f d)
section
variable {ρ:M D} {S:SS} {s:St} {G:Gf} {cf:Cf} {mf:Mf} {lI:M (Nat×nh)} {hint:M Nat} {n:Nat} {d:u Nat} {kn:Gs}
theorem pP:∀{l:M SA} {b:M D} {f:M A},iI l b=Z f->b.length=yE l
 |[],[],_,_=>rfl
 |[],_::_,_,h=>by cases h
 |a::as,b,f,h=>by
  obtain⟨r,o,c,k,rfl⟩:=jf h;have j:=pP k;have i:(b.take a.n).length=a.n:=by
   cases a with
   |val m l=>simp only[nz]at c;obtain⟨g,e,_⟩:=aj.1 c;exact n9 e
   |box l=>simp only[nz]at c;obtain⟨g,e,_⟩:=aj.1 c;exact n9 e
  rw[dK]at j;rw[bj]at i;simp only[yE];omega
theorem U4{v:M SA×M SA}{a:M D}{r:M A×M A}(h:yL v a=Z r):a.length=yE v.1+yE v.2:=by
 unfold yL at h
 split at h
 ·rename_i g outs f e;have c:=pP f;have b:=pP e;rw[bj]at c;rw[dK]at b;omega
 ·cases h
def T_(G:Gf)(t:ST)(j:Nat)(outs:M SO)(ρ:M D)(run:u (Ex×St)):Prop:=
 ∀i a,eZ G t j ρ=Z (i,a)->∃o b,nth outs i=Z o/\run=Z (RP o.x,b)/\a.length=o.m/\Rel a o.S b
theorem PL{k:(M SA×M SA)->u (ST×M SO)}:∀{g:M (M SA×M SA)} {a b:M SO} {c:ST},Zf k g a=Z (c,b)->
  (∀i x,nth a i=Z x->nth b i=Z x)/\∀j v,nth g j=Z v->∃t os,k v=Z (t,os)/\∀run ρ,Fits G t os ρ run->T_ G c j b ρ run
 |[],a,b,c,h=>by cases h;exact⟨λ_ _ m=>m,λj v C=>(by cases C)⟩
 |v::g,a,b,c,h=>by
  simp only[Zf]at h
  split at h
  ·rename_i t os K;generalize F:pg os a=q at h;obtain⟨f,V⟩:=q;simp only at h
   split at h
   ·rename_i A U L;cases h;obtain⟨Q,P⟩:=pY F;obtain⟨y,N⟩:=PL L;refine⟨λi x m=>y i x (P i x m),λj w r=>?_⟩;cases j with
    |zero=>
     cases r;refine⟨t,os,K,λrun ρ p i e hd=>?_⟩;have:=p.map (f:=f) (outs':=b) (λi o H=>by obtain⟨j,q1,q2⟩:=Q i o H;exact⟨j,q1,y j o q2⟩);exact this i e hd
    |succ j=>
     obtain⟨B,l,T,R⟩:=N j w r;exact⟨B,l,T,λrun ρ p i e hd=>R run ρ p i e hd⟩
   ·cases h
  ·cases h
theorem A9{b:Bs}{t:ST}{outs:M SO}{run:u (Ex×St)}(h:∀a,kV ρ b=Z a->Fits G t outs a run):Fits G (EW [] b t) outs ρ run:=by
 intro j c hd;obtain⟨g,i,f,e⟩:=CN (gs:=[]) rfl hd;exact h _ (e rfl) j c f
theorem MJ(P:YK cf lI G)(h:Rel ρ S s)(q:jt ρ kn=Z I)(p:n=ρ.length){op:KO}{k:SS->Nat->u (ST×M SO)}{t:ST}{outs:M SO}{run:St->u (Ex×St)}
  (L:∀l b c t outs,Rel b l c->jt b kn=Z I->k l b.length=Z (t,outs)->Fits G t outs b (run c)) (a:Fu hint lI S kn n d op k=Z (t,outs)) :
  op.kT=J/\Fits G t outs ρ ((lQ cf mf s d op).bind run):=by
 unfold Fu at a
 split at a
 ·rename_i f xs;refine⟨rfl,?_⟩
  split at a
  ·rename_i cs hx
   split at a
   ·rename_i as es ha
    split at a
    ·rename_i i hi
     split at a
     ·rename_i X H
      split at a
      ·rename_i hq;obtain⟨rfl,rfl,hd⟩:=hq
       split at a
       ·rename_i ts g hf;cases a;obtain⟨_,h2⟩:=PL (G:=G) hf;intro j T m;simp only[eZ]at m
        split at m
        ·rename_i U hw
         split at m
         ·rename_i F C K;obtain⟨as,r,v,w1,B,V,w4⟩:=P i X H U F C K;obtain⟨t,os,o,g2⟩:=h2 F v B
          split at o
          ·rename_i Q l hr
           split at o
           ·rename_i W Y w;cases o;refine g2 _ (ρ++C) ?_ j T m;refine A9 λb e=>?_;obtain⟨c,y,x⟩:=OM (cf:=cf) (mf:=mf) P h q p hx ha H rfl hd hw K B hr e;rw[y];obtain⟨R,A⟩:=qu e;refine L l b c _ _ x (by rw[A,bB];exact lR _ q) ?_;rw[vO e,a_,<- p,U4 V];exact w
           ·cases o
          ·cases o
         ·cases m
        ·cases m
       ·cases a
      ·cases a
     ·cases a
    ·cases a
   ·cases a
  ·cases a
 ·split at a
  ·rename_i Q l N
   split at a
   ·rename_i W g w;cases a;have hp:∀b,kV ρ Q=Z b->op.kT=J/\∃c,lQ cf mf s d op=Z c/\Rel b l c:=λb e=>OQ h q p N e;refine⟨(by cases op<;>first|rfl|cases N),A9 λb e=>?_⟩;obtain⟨_,c,y,x⟩:=hp b e;rw[y];obtain⟨R,A⟩:=qu e;refine L l b c _ _ x (by rw[A];exact lR _ q) ?_;rw[vO e,<- p];exact w
   ·cases a
  ·cases a
theorem Fo(x:YK cf lI G)(h:Rel ρ S s)(g:jt ρ kn=Z I)(f:n=ρ.length){op:KO}{k:SS->Nat->u (ST×M SO)}{t:ST}{outs:M SO}{run:St->u (Ex×St)}
  (m:∀p b j t outs,Rel b p j->jt b kn=Z I->k p b.length=Z (t,outs)->Fits G t outs b (run j)) (a:MF hint lI S kn n d op k=Z (t,outs)) :
  Fits G t outs ρ ((B8 cf mf s d op).bind run):=by
 unfold MF at a
 split at a
 ·rename_i l
  split at a
  ·rename_i H c w
   split at a
   ·rename_i F e r;cases a;refine A9 λb i=>?_;obtain⟨v,C,B⟩:=Fw h g f w i;obtain⟨q,o⟩:=qu i;simp only[B8,l,if_true,C,aQ,dY];refine m _ b _ _ _ ((o▸h.mono q:Rel b S s).put d (ry.nil B)) (by rw[o];exact lR _ g) ?_;rw[vO i,<- f];exact r
   ·cases a
  ·cases a
 ·rename_i l;obtain⟨A,y⟩:=MJ (mf:=mf) x h g f m a;simp only[B8,A,aD,if_false];exact y
theorem VD{i:Gs}{e:Bs}{c:M D}(h:kV ρ (full S i e)=Z c):∃a,c=ρ++a/\∃g j,kV ρ e=Z g/\c=g++j:=by
 obtain⟨a,f⟩:=qu h;refine⟨a,f,?_⟩;cases e with
 |nil=>exact⟨ρ,a,rfl,f⟩
 |cons b e=>exact⟨c,[],h,by simp⟩
theorem Xn(h:Rel ρ S s){c:Gs}(e:abT S c=I):∃b,jt ρ c=Z b:=by
 obtain⟨p,_,a⟩:=kI.1 e
 split at a
 ·rename_i g f;obtain⟨b,i,_⟩:=h.sl _ g f;exact⟨b,(of_decide_eq_true a)▸i⟩
 ·cases a
theorem PW{a:Gs}{e c:ST}{outs:M SO}{run:u (Ex×St)}(g:jt ρ a=Z I->Fits G e outs ρ run)(f:jt ρ a=Z J->Fits G c outs ρ run):Fits G (.gd a e c) outs ρ run:=by
 intro j b hd;simp only[eZ]at hd
 split at hd
 ·rename_i h;exact g h j b hd
 ·rename_i h;exact f h j b hd
 ·cases hd
theorem VK:∀{a:Gs} {p:SE×Bool} {c:Gs},jt ρ a=Z I->p.1.d ρ=Z (.bool (!p.2))->jt ρ (a++p::c)=Z J
 |[],p,c,_,b=>by
  obtain⟨e,w⟩:=p;simp only[av,jt]at b ⊢;rw[b];cases w<;>rfl
 |(g,v)::a,p,c,h,b=>by
  have f:=oc h (g,v) (by simp);simp only[au,jt]at f h ⊢;rw[f]at h ⊢;simp only[if_true]at h ⊢;exact VK h b
theorem Bj{v w:Gs->u (ST×M SO)}{run:u (Ex×St)}{full_:Gs}(l:∀h {t:ST} {o:M SO},jt ρ h=Z I->jt ρ full_=Z I->v h=Z (t,o)->Fits G t o ρ run)
  (m:∀h {t:ST} {o:M SO},jt ρ h=Z I->jt ρ full_=Z J->w h=Z (t,o)->Fits G t o ρ run):∀{gs pre kn:Gs} {t:ST} {outs:M SO},full_=pre++gs->jt ρ pre=Z I->jt ρ kn=Z I->Fj v w gs kn=Z (t,outs)->Fits G t outs ρ run
 |[],pre,kn,t,outs,j,e,c,a=>l kn c (by rw[j,aJ];exact e) a
 |p::A,pre,kn,t,outs,j,e,c,a=>by
  have g:full_=(pre++[p])++A:=by rw[j];simp
  simp only[Fj]at a
  split at a
  ·rename_i F;exact Bj l m g (xI e (Hg λq b=>by simp only[db]at b;subst b;exact oc c _ F)) c a
  ·split at a
   ·rename_i L C K B H hB;generalize b:pg B C=q at a;obtain⟨f,k⟩:=q;cases a;obtain⟨q1,q2⟩:=pY b;refine PW (λi=>?_) λi=>?_
    ·exact (Bj l m g (xI e i) (xI (gs:=[p]) i c) H).more q2
    ·obtain⟨r,x,y⟩:=DG i;simp only[db]at x;subst x;exact Fits.map (m _ (xI (gs:=[(r.1,!r.2)]) (Hg λq b=>by simp only[db]at b;subst b;exact y) c) (by rw[j];exact VK e y) hB) q1
   ·cases a
theorem EX{a:Gs}{o:PO}{es:M SE}{c:Bs}{t:ST}{r:Nat×M D}(h:eZ G (EW a ((o,es)::c) t) 0 ρ=Z r):∃b,jt ρ a=Z b:=by
 simp only[EW,eZ]at h
 split at h
 ·exact⟨_,‹_›⟩
 ·exact⟨_,‹_›⟩
 ·cases h
theorem aco(e:Rel ρ S s){a:Gs}{c:Bs}{t:ST}{r:Nat×M D}(h:eZ G (EW a (full S a c) t) 0 ρ=Z r):∃b,jt ρ a=Z b:=by
 cases c with
 |nil=>
  simp only[full]at h
  split at h
  ·exact Xn e ‹_›
  ·exact EX h
 |cons b c=>exact EX h
theorem aci{g:Nat}{w:Bool}{op:KO}(h:Rel ρ S s)(k:jt ρ kn=Z I){f:Gs}{e:SE}(j:look S.sl g=Z ⟨f,.b (.d e)⟩)(l:(f++[(e,w)]).any (λp=>Z' ((p.1,!p.2)∈kn))=I) :
  ux cf mf s ⟨d,op,Z (g,w)⟩=Z (s.put d .uv):=by
 obtain⟨r,q,o,m⟩:=h.sl g _ j;cases r with
 |false=>simp only[ux,m rfl]
 |true=>
  obtain⟨p,a,i⟩:=kI.1 l;have c:=oc k _ (of_decide_eq_true i);rcases aT.1 a with a|a
  ·have:=oc q p a;simp only at c
   rw[c]at this;exact absurd this (by cases p.2<;>simp)
  ·simp only[db]at a;subst a;obtain⟨x,q1,q2⟩:=o rfl;simp only at c
   rw[c]at q1;cases q1;simp only[ux,q2];rw[if_neg (by cases w<;>simp)]
theorem CT(C:YK cf lI G)(h:Rel ρ S s)(l:jt ρ kn=Z I){i:KI}{k:SS->Gs->Nat->u (ST×M SO)}{t:ST}{outs:M SO}{run:St->u (Ex×St)}
  (cont:∀{y:Gs} (P:SS) (r:M D) (L:St) (t:ST) (outs:M SO),Rel r P L->jt r y=Z I->k P y r.length=Z (t,outs)->Fits G t outs r (run L))
  (a:ON hint lI S kn ρ.length i k=Z (t,outs)):Fits G t outs ρ ((ux cf mf s i).bind run):=by
 obtain⟨d,op,gd⟩:=i;cases gd with
 |none=>
  simp only[ON]at a;exact Fo C h l rfl (run:=run) cont a
 |some gw=>
  obtain⟨g,w⟩:=gw;simp only[ON]at a
  split at a
  ·rename_i q e o
   split at a
   ·rename_i Q;have f:jt ρ (q++[(e,w)])=Z I:=NW l Q;rw[IG h o f,if_pos rfl];exact Fo C h l rfl (run:=run) cont a
   ·split at a
    ·rename_i U;rw[aci h l o U,dY];exact cont _ _ _ _ _ (h.put d (Pg rfl)) l a
    ·split at a
     ·rename_i R
      split at a
      ·rename_i bs c V
       split at a
       ·rename_i t' A B;cases a;intro j K hd;obtain⟨b,f⟩:=aco h hd;obtain⟨m,x,N,F⟩:=CN f hd;rw[IG h o f];have p:ρ.length+(full S (q++[(e,w)]) bs).length=(ρ++m).length:=by rw[a_,x]
        rw[p]at B;cases b with
        |true=>
         obtain⟨_,_,TZ,TB,Y,X⟩:=VD (F rfl);obtain⟨v,e1,e2⟩:=Fw h (xI f l) rfl V Y;simp only[B8,R,if_true,e1,aQ,dY];refine cont _ _ _ _ _ ((h.mono m).put d ?_) (lR m l) B j K N;exact⟨I,lR m f,λ_=>X▸e2.mono TB,λh=>(by cases h)⟩
        |false=>
         rw[if_neg (by simp),dY];refine cont _ _ _ _ _ ((h.mono m).put d ?_) (lR m l) B j K N;exact⟨J,lR m f,λh=>(by cases h),λ_=>rfl⟩
       ·cases a
      ·cases a
     ·refine Bj (full_:=q++[(e,w)]) (λy _ _ H f W=>?_) (λy _ _ H f hB=>?_) (pre:=[]) rfl rfl l a
      ·rw[IG h o f,if_pos rfl];exact Fo C h H rfl (run:=run) cont W
      ·rw[IG h o f,if_neg (by simp),dY];exact cont _ _ _ _ _ (h.put d (Pg rfl)) H hB
  ·rename_i q o
   split at a
   ·rename_i f;obtain⟨b,x,_,F⟩:=h.sl g _ o;rw[f]at x;cases x;have T:ux cf mf s ⟨d,op,Z (g,w)⟩=Z (s.put d .uv):=by simp only[ux,F rfl]
    rw[T,dY];exact cont _ _ _ _ _ (h.put d (Pg rfl)) l a
   ·cases a
  ·cases a
theorem HZ(j:YK cf lI G){a:mo}:∀{b:M KI} {S:SS} {kn:Gs} {ρ:M D} {s:St} {t:ST} {outs:M SO},Rel ρ S s->jt ρ kn=Z I->Fv hint lI a b S kn ρ.length=Z (t,outs)->
  Fits G t outs ρ (nrm a (nB cf mf b s))
 |[],S,kn,ρ,s,t,outs,h,f,c=>by
  simp only[Fv,aa]at c;exact vp (h.dL a) f c
 |i::b,S,kn,ρ,s,t,outs,h,f,c=>by
  have g:nrm a (nB cf mf (i::b) s)=(ux cf mf s i).bind λe=>nrm a (nB cf mf b e):=by
   simp only[nB];cases ux cf mf s i<;>rfl
  rw[g];simp only[Fv]at c;exact CT j h f (run:=λe=>nrm a (nB cf mf b e)) (λp o e t outs l m k=>HZ j l m k) c
end
end
section
def KO.S9:KO->M KX
 | .st _ x y=>[x,y]
 | .uf _ _ xs=>xs
 | .app _ _ _ x y=>[x,y]
 | .call _ xs=>xs
 | .YD _ x _=>[x]
 | .cut _ x _ _=>[x]
 | .GV _ x _=>[x]
 | .jn x _=>[x]
 | .xt _ x _ a=>[x,a]
 |_=>[]
def sw(s:St):C->M Nat
 | .ptr b _=>b::rowsOf ((look s.bx b).getD [])
 | .pj r _ _ _=>[r]
 |c=>rowsOf c.cells
theorem wo(s:St)(c:C):∀q∈rowsOf c.cells,q∈sw s c:=by
 intro q h;cases c<;>first|exact h|(simp[C.cells,rowsOf]at h)
theorem tn(s:St)(c:C):∀q∈rowsOf [c],q∈sw s c:=by
 intro q h;cases c<;>first|exact h|(simp[rowsOf]at h)
theorem zb(s:St)(f:C->M Nat)(b:∀c,∀q∈f c,q∈sw s c)(g:M C->M Nat)(e:g []=[])(d:∀c i,g (c::i)=f c++g i):∀(a:M KX),∀q∈g (a.map (gj s)),∃x∈a,q∈sw s (gj s x)
 |[],q,h=>by simp[e]at h
 |x::a,q,h=>by
  rw[aZ,d]at h;rcases aT.1 h with h|h
  ·exact⟨x,by simp,b _ q h⟩
  ·obtain⟨y,j,k⟩:=zb s f b g e d a q h;exact⟨y,by simp[j],k⟩
theorem Tw(s:St)(d:u Nat)(op:KO):∀q∈eW s d op,q∈d.toList\/∃x∈op.S9,q∈sw s (gj s x):=by
 intro q h;cases op with
 |st n x y=>
  simp only[eW]at h
  split at h
  ·rename_i b o g;simp only[db]at h;exact .inr ⟨x,by simp[KO.S9],by rw[g];simp[sw,h]⟩
  ·rename_i r k i o g;rcases aI.1 h with h|h
   ·exact .inr ⟨x,by simp[KO.S9],by rw[g];simp[sw,h]⟩
   ·exact .inr ⟨y,by simp[KO.S9],wo s _ q h⟩
  ·cases h
 |uf k j e=>
  simp only[eW]at h;rcases aT.1 h with h|h
  ·exact .inl h
  ·exact .inr (zb s (λc=>rowsOf c.cells) (wo s) zH rfl (λ_ _=>rfl) e q h)
 |xt ins x i a=>
  simp only[eW]at h;rcases aT.1 h with h|h
  ·rcases aT.1 h with h|h
   ·exact .inl h
   ·exact .inr ⟨x,by simp[KO.S9],tn s _ q h⟩
  ·exact .inr ⟨a,by simp[KO.S9],tn s _ q h⟩
 |app k m j x y=>
  simp only[eW]at h;rcases aT.1 h with h|h
  ·rcases aT.1 h with h|h
   ·exact .inl h
   ·exact .inr ⟨x,by simp[KO.S9],tn s _ q h⟩
  ·exact .inr ⟨y,by simp[KO.S9],tn s _ q h⟩
 |call f e=>
  simp only[eW,Cp]at h;rcases aT.1 h with h|h
  ·rcases aT.1 h with h|h
   ·refine .inr (zb s (λc=>match c with | .ptr b _=>[b]|_=>[]) (λc q h=>?_) cX rfl (λc l=>by cases c<;>rfl) e q h)
    split at h
    ·simp only[db]at h;simp[sw,h]
    ·cases h
   ·refine .inr (zb s (sH s) (λc q h=>?_) (dN s) rfl (λc l=>rfl) e q h);unfold sH at h
    split at h
    ·simp only[sw,aI];exact .inr h
    ·cases h
  ·exact .inr (zb s (λc=>rowsOf c.cells) (wo s) jE rfl (λ_ _=>rfl) e q h)
 |YD f x y=>simp only[eW]at h;exact .inr ⟨x,by simp[KO.S9],wo s _ q h⟩
 |cut k x p t=>
  simp only[eW]at h;rcases aT.1 h with h|h
  ·exact .inl h
  ·exact .inr ⟨x,by simp[KO.S9],tn s _ q h⟩
 |GV k x y=>
  simp only[eW]at h;rcases aT.1 h with h|h
  ·exact .inl h
  ·exact .inr ⟨x,by simp[KO.S9],tn s _ q h⟩
 |jn x y=>
  simp only[eW]at h;rcases aT.1 h with h|h
  ·exact .inl h
  ·exact .inr ⟨x,by simp[KO.S9],tn s _ q h⟩
 |_=>exact .inl h
def Sc(S:SS):SC->u (M Nat)
 | .b x=>if x.cell=I then Z (gJ [x]) else O
 | .agg a=>if a.all SB.cell=I then Z (gJ a) else O
 | .ptr b _=>match look S.bx b with
  |some a=>if a.all SB.cell=I then Z (b::gJ a) else O
  |none=>O
 | .pj r _ _ _=>Z [r]
 | .ub _ _=>Z []
 | .ri _=>Z []
 | .any=>O
def ZK(S:SS):KX->u (M Nat)
 | .s d=>match look S.sl d with
  |some g=>if g.gs=MU.gs then Z [] else Sc S g.c
  |none=>O
 |x=>match fZ S [] x with
  |some c=>Sc S c
  |none=>O
def Ev(S:SS)(a:Gs):KO->u (u Nat)
 | .ld _ x=>match fZ S a x with
  |some (.ptr b _)=>Z (Z b)
  |some (.ub _ _)=>Z O
  |_=>O
 | .Nu _=>O
 |_=>Z O
def Ob(S:SS)(c:Gs)(i:KI):u (u Nat):=
 match i.gd with
 |none=>Ev S c i.op
 |some (g,w)=>match look S.sl g with
  |some ⟨a,.b (.d e)⟩=>if (a++[(e,w)]).any (λp=>Z' ((p.1,!p.2)∈c))=I then Z O else Ev S ((a++[(e,w)])++c) i.op
  |some ⟨a,.any⟩=>if a=MU.gs then Z O else O
  |_=>O
def aaq(S:SS)(a:M (M Nat×Nat))(i:KI):Bool:=
 a.all (λp=>!(i.dst ==Z p.2)) && i.op.S9.all λx=>match ZK S x with
  |some l=>a.all λp=>!l.contains p.2
  |none=>a.isEmpty
def SB.ym:SB->Bool
 | .any=>J
 |_=>I
def RE:M (SB ⊕ M SB)->Bool
 |[]=>I
 | .inl x::xs=>x.ym && RE xs
 | .inr l::xs=>l.all SB.ym && RE xs
def SC.ym:SC->Bool
 | .b x=>x.ym
 | .agg xs=>xs.all SB.ym
 | .ri xs=>RE xs
 | .any=>J
 |_=>I
def ace(a:mo)(S:SS):Bool:=
 a.s.all (λd=>match look S.sl d with
  |some g=>g.c.ym ||decide (g.gs=MU.gs)
  |none=>J) && a.b.all (λb=>match look S.bx b with
  |some e=>e.all SB.ym
  |none=>J) && a.r.all λr=>(look S.rw r).isSome
def zM(hint:M Nat)(d:M (Nat×nh))(g:mo):KT->M (M Nat×Nat)->SS->Gs->Nat->u (ST×M SO)
 | .nil,_,S,c,n=>Z (Ew O c (S.dL g))
 | .alt ⟨j,_,_,_,i⟩ is r,a,S,c,n=>
  if aaq S (jR j a) i=I then (match ON hint d S c n i (λe k h=>
    if (jR j a).all (λp=>(look e.bx p.2).isSome)=I then zM hint d g is (jR j a) e k h else O),zM hint d g r a S c n with
   |some (m,t),Z (l,s)=>match pg s t with
    |(f,outs)=>if outs.all (λo=>ace g o.S)=I then Z (.both m (L6 f l),outs) else O
   |_,_=>O) else O
 | .op ⟨j,q,w,v,i⟩ is,a,S,c,n=>
  if q=I then (if i.op.kT=I then (match Ob S c i with
   |some b=>ON hint d S c n i (λe k h=>zM hint d g is (oS v a b) e k h)
   |none=>O) else O)
  else if aaq S (jR j a) i=I then ON hint d S c n i (λe k h=>
   if (jR j a).all (λp=>(look e.bx p.2).isSome)=I then zM hint d g is (jR j a) e k h else O) else O
section
variable {ρ:M D} {S:SS} {s:St} {G:Gf} {cf:Cf} {mf:Mf} {lI:M (Nat×nh)} {hint:M Nat} {n:Nat} {d:u Nat} {kn:Gs}
theorem Qe(h:Rel ρ S s){c:SC}{v:C}{l:M Nat}(f:lN ρ c v)(a:Sc S c=Z l):∀q∈sw s v,q∈l:=by
 intro q g;cases c with
 |b x=>
  simp only[Sc]at a
  split at a
  ·rename_i j;cases a;cases x with
   |d e=>obtain⟨y,_,rfl⟩:=f;simp[sw,C.cells,rowsOf]at g
   |nil k F=>simp only[lN,kv]at f;subst f;simp[sw,C.cells,rowsOf]at g
   |ref r=>simp only[lN,kv]at f;subst f;simpa [sw,C.cells,rowsOf,gJ] using g
   |any=>cases j
  ·cases a
 |agg t=>
  simp only[Sc]at a
  split at a
  ·rename_i j;cases a;obtain⟨w,rfl,p⟩:=f;simp only[sw,C.cells]at g
   rwa [oC p j]at g
  ·cases a
 |ri t=>obtain⟨w,rfl,p⟩:=f;simp[sw,C.cells,rowsOf]at g
 |ptr b o=>
  simp only[lN]at f;subst f;simp only[Sc]at a
  split at a
  ·rename_i t A
   split at a
   ·rename_i j;cases a;obtain⟨w,p,B⟩:=h.bx b t A;simp only[sw,p,ku]at g
    rwa [oC B j]at g
   ·cases a
  ·cases a
 |pj r k i o=>
  obtain⟨m,_,rfl⟩:=f;cases a;exact g
 |ub i o=>
  obtain⟨x,w,_,_,rfl⟩:=f;simp[sw,C.cells,rowsOf]at g
 |any=>cases a
theorem ZL(h:Rel ρ S s){x:KX}{l:M Nat}(a:ZK S x=Z l):∀q∈sw s (gj s x),q∈l:=by
 cases x with
 |s d=>
  simp only[ZK]at a
  split at a
  ·rename_i g m;obtain⟨b,i,p,f⟩:=h.sl d g m
   split at a
   ·rename_i j;rw[j]at i;cases i;intro q e;simp only[gj,f rfl,sw,C.cells,rowsOf]at e;cases e
   ·cases b with
    |true=>exact Qe h (p rfl) a
    |false=>
     intro q e;simp only[gj,f rfl,sw,C.cells,rowsOf]at e;cases e
  ·cases a
 |k c=>
  simp only[ZK]at a
  split at a
  ·rename_i r o;exact Qe h (cT h (gs:=[]) rfl o) a
  ·cases a
theorem QU(h:Rel ρ S s){e:M (M Nat×Nat)}{i:KI}(f:aaq S e i=I):∀p∈e,(!(eW s i.dst i.op).contains p.2)=I/\(!(i.dst ==Z p.2))=I:=by
 intro p c;simp only[aaq,ai,bz]at f;obtain⟨j,v⟩:=f;refine⟨?_,j p c⟩;rw[ck,eg];intro q;rcases Tw s i.dst i.op p.2 (by simpa using q) with hd|⟨x,k,m⟩
 ·have:=j p c;cases g:i.dst with
  |none=>rw[g]at hd;simp at hd
  |some a=>rw[g]at hd this;simp at hd;simp[hd]at this
 ·have:=v x k
  split at this
  ·rename_i l o;have t:=bz.1 this p c;have r:=ZL h o _ m;simp[r]at t
  ·cases e with
   |nil=>cases c
   |cons a b=>cases this
theorem SP(h:Rel ρ S s){g:Gs}(f:jt ρ g=Z I){op:KO}{b:u Nat}(a:Ev S g op=Z b):pr s op=Z b:=by
 cases op with
 |ld n x=>
  simp only[Ev]at a
  split at a
  ·rename_i k o c;cases a;have:=cT h f c;simp only[lN]at this;simp only[pr,this]
  ·rename_i i o c;cases a;obtain⟨x,j,_,_,e⟩:=cT h f c;simp only[pr,e]
  ·cases a
 |Nu x=>cases a
 |_=>exact a
theorem Xc(h:Rel ρ S s)(B:jt ρ kn=Z I){kp:mo}{j:Nat}{al dn:M Nat}{i:KI}{is:KT}{tk:M (M Nat×Nat)}{b:u Nat}(a:i.op.kT=I)(f:Ob S kn i=Z b) :
  ∃k,(∀p∈k,p∈oS dn tk b)/\fU cf mf kp (.op ⟨j,I,al,dn,i⟩ is) tk s=(ux cf mf s i).bind (fU cf mf kp is k):=by
 have r:∀p∈tk,p∈oS dn tk b:=by
  intro p a;unfold oS;split
  ·exact bT _ a
  ·exact a
 have l:∀{gs:Gs},jt ρ gs=Z I->Ev S gs i.op=Z b->(match jj s i.op,pr s i.op with
   |some c,Z b=>fU cf mf kp is (oS dn tk b) (s.put i.dst c)
   |_,_=>O)=(B8 cf mf s i.dst i.op).bind (fU cf mf kp is (oS dn tk b)):=by
  intro gs y m;rw[SP h y m];simp only[B8,a,if_true];cases jj s i.op<;>rfl
 obtain⟨d,op,gd⟩:=i;cases gd with
 |none=>
  refine⟨_,λp a=>a,?_⟩;simp only[fU,if_true,ux];exact l B f
 |some gw=>
  obtain⟨g,w⟩:=gw;simp only[Ob]at f;simp only[fU,if_true,ux];cases o:s.get g with
  |d x=>
   cases x with
   |bool t=>
    simp only
    by_cases H:t=w
    ·subst H;simp only[if_true];refine⟨_,λp a=>a,?_⟩
     split at f
     ·rename_i L e m;obtain⟨K,A,R,C⟩:=h.sl g _ m;cases K with
      |false=>rw[C rfl]at o;cases o
      |true=>
       obtain⟨x,q1,q2⟩:=R rfl;rw[o]at q2;cases q2;have y:=xI A (Hg (gs:=[(e,t)]) λq v=>by simp only[db]at v;subst v;exact q1)
       split at f
       ·rename_i Q;obtain⟨p,a,v⟩:=kI.1 Q;have N:=oc y p a;have F:=oc B _ (of_decide_eq_true v);simp only[N]at F;exact absurd F (by cases p.2<;>simp)
       ·exact l (xI y B) f
     ·rename_i L m
      split at f
      ·rename_i P;obtain⟨K,A,_,C⟩:=h.sl g _ m;rw[P]at A;cases A;rw[C rfl]at o;cases o
      ·cases f
     ·cases f
    ·simp only[if_neg H,dY];exact⟨tk,r,rfl⟩
   |_=>exact⟨tk,r,rfl⟩
  |uv=>simp only[dY];exact⟨tk,r,rfl⟩
  |_=>exact⟨tk,r,rfl⟩
theorem wL{j:Nat}{a b:M (M Nat×Nat)}(h:∀p∈a,p∈b):∀p∈jR j a,p∈jR j b:=λp c=>by
 obtain⟨f,e⟩:=nn.1 c;exact nn.2 ⟨h p f,e⟩
theorem Ts{e:M Nat}{b:u Nat}{c f:M (M Nat×Nat)}(h:∀p∈c,p∈f):∀p∈oS e c b,p∈oS e f b:=λp a=>by
 cases b with
 |none=>exact h p a
 |some b=>
  rcases aI.1 a with a|a
  ·exact a▸bQ
  ·exact bT _ (h p a)
theorem QQ{a:Type}:∀{l:M a} {i:Nat} {x:a},nth l i=Z x->x∈l
 |y::l,0,x,h=>by cases h;exact bQ
 |y::l,i+1,x,h=>bT _ (QQ (l:=l) h)
theorem kv.ym{x:SB}{c g:C}(hd:x.ym=I)(h:kv ρ x c)(b:kv ρ x g):c=g:=by
 cases x with
 |d e=>
  obtain⟨y,i,rfl⟩:=h;obtain⟨a,f,rfl⟩:=b;rw[i]at f;cases f;rfl
 |any=>cases hd
 |_=>simp only[kv]at h b;rw[h,b]
theorem kv.ne{x:SB}{c:C}(hd:x.ym=I)(h:kv ρ x c):c≠.any:=by
 cases x with
 |d e=>obtain⟨y,a,rfl⟩:=h;intro h;cases h
 |any=>cases hd
 |_=>simp only[kv]at h;subst h;intro h;cases h
theorem eQ.ym:∀{a:M SB} {e b:M C},a.all SB.ym=I->eQ ρ a e->eQ ρ a b->e=b
 |[],_,_,_,h,f=>by simp only[eQ]at h f;rw[h,f]
 |x::a,_,_,hd,⟨c,e,j,i,g⟩,⟨o,b,m,l,k⟩=>by
  simp only[cV,ai]at hd;rw[j,m,i.ym hd.1 l,eQ.ym hd.2 g k]
theorem uF.ym:∀{a:M (SB ⊕ M SB)} {e b:M C},RE a=I->uF ρ a e->uF ρ a b->e=b
 |[],_,_,_,h,o=>by simp only[uF]at h o;rw[h,o]
 | .inl x::a,_,_,hd,⟨c,e,i,g,f⟩,⟨p,b,m,k,j⟩=>by
  simp only[RE,ai]at hd;rw[i,m,g.ym hd.1 k,uF.ym hd.2 f j]
 | .inr l::a,_,_,hd,⟨c,e,i,g,f⟩,⟨p,b,m,k,j⟩=>by
  simp only[RE,ai]at hd;rw[i,m,g.ym hd.1 k,uF.ym hd.2 f j]
theorem lN.ym{x:SC}{c q:C}(hd:x.ym=I)(h:lN ρ x c)(f:lN ρ x q):c=q:=by
 cases x with
 |b x=>exact kv.ym hd h f
 |agg t=>
  obtain⟨p,rfl,e⟩:=h;obtain⟨g,rfl,a⟩:=f;rw[e.ym hd a]
 |ri t=>
  obtain⟨p,rfl,e⟩:=h;obtain⟨g,rfl,a⟩:=f;rw[e.ym hd a]
 |ptr b o=>simp only[lN]at h f;rw[h,f]
 |pj r k i o=>
  obtain⟨m,e,rfl⟩:=h;obtain⟨w,a,rfl⟩:=f;rw[e]at a;cases a;rfl
 |ub i o=>
  obtain⟨x,p,e,a,rfl⟩:=h;obtain⟨v,g,l,j,rfl⟩:=f;rw[e]at l;cases l;rw[a]at j;cases j;rfl
 |any=>cases hd
theorem lN.ne{x:SC}{c:C}(hd:x.ym=I)(h:lN ρ x c):c≠.any:=by
 cases x with
 |b x=>exact kv.ne hd h
 |agg f=>obtain⟨e,rfl,a⟩:=h;intro h;cases h
 |ri f=>obtain⟨e,rfl,a⟩:=h;intro h;cases h
 |ptr b o=>simp only[lN]at h;subst h;intro h;cases h
 |pj r k i o=>obtain⟨m,a,rfl⟩:=h;intro h;cases h
 |ub i o=>obtain⟨x,e,a,g,rfl⟩:=h;intro h;cases h
 |any=>cases hd
theorem zh{c:Type}(l b:M (Nat×c)):∀(a:M Nat),(∀d∈a,∃x,look l d=Z x/\look b d=Z x)->iV l a=iV b a
 |[],_=>rfl
 |d::a,h=>by
  obtain⟨x,i,g⟩:=h d (by simp);simp only[iV,i,g,zh l b a λe f=>h e (by simp[f])]
theorem Wj{a:mo}{s i:St}(h:Rel ρ S (s.dL a))(p:Rel ρ S (i.dL a))(hd:ace a S=I):s.dL a=i.dL a:=by
 simp only[ace,ai,bz]at hd;obtain⟨⟨H,F⟩,C⟩:=hd;have N:iV s.sl a.s=iV i.sl a.s:=by
  refine zh _ _ _ λd j=>?_;have e:=H d j
  split at e
  ·rename_i g t;obtain⟨b,q1,q2,B⟩:=h.sl d g t;obtain⟨U,l,k,A⟩:=p.sl d g t;rw[q1]at l;cases l;have f:(s.dL a).get d=(i.dL a).get d/\(s.dL a).get d≠.any:=by
    cases b with
    |false=>rw[B rfl,A rfl];exact⟨rfl,by intro h;cases h⟩
    |true=>
     have v:g.c.ym=I:=by
      simp only[df,decide_eq_true_eq]at e;rcases e with e|e
      ·exact e
      ·rw[e]at q1;cases q1
     exact⟨(q2 rfl).ym v (k rfl),(q2 rfl).ne v⟩
   rw[DT s a j,DT i a j]at f;unfold St.get at f;cases o:look s.sl d with
   |none=>rw[o]at f;exact absurd rfl f.2
   |some x=>
    cases w:look i.sl d with
    |none=>rw[o,w]at f;exact absurd f.1 (by intro h;rw[h]at f;exact f.2 rfl)
    |some y=>rw[o,w]at f;exact⟨x,rfl,by rw[show y=x from f.1.symm]⟩
  ·cases e
 have L:iV s.bx a.b=iV i.bx a.b:=by
  refine zh _ _ _ λd j=>?_;have e:=F d j
  split at e
  ·rename_i q m;obtain⟨P,q1,q2⟩:=h.bx d q m;obtain⟨R,l,k⟩:=p.bx d q m;have:=q2.ym e k;subst this;exact⟨P,(i_ _ _ q1).1,(i_ _ _ l).1⟩
  ·cases e
 have K:iV s.rw a.r=iV i.rw a.r:=by
  refine zh _ _ _ λd j=>?_;obtain⟨x,m⟩:=cy.1 (C d j);obtain⟨y,q1,es,q2,rfl⟩:=h.rw d x m;obtain⟨Q,l,T,k,rfl⟩:=p.rw d x m;rw[q2]at k;cases k;exact⟨_,(i_ _ _ q1).1,(i_ _ _ l).1⟩
 simp only[St.dL,N,L,K]
theorem UA{c:Type}{a b:u c}{r:c}(h:both a b=Z r):a=Z r:=by
 unfold both at h
 split at h
 ·split at h
  ·cases h;rfl
  ·cases h
 ·cases h
theorem na{f:mo}:∀{e:KT} {c:M (M Nat×Nat)} {s b:St},fU cf mf f e c s=Z b->∃g:St,b=g.dL f
 | .nil,c,s,b,h=>by simp only[fU,aa]at h;exact⟨s,h.symm⟩
 | .op ⟨j,q,l,k,i⟩ e,c,s,b,h=>by
  simp only[fU]at h
  split at h
  ·split at h
   ·split at h
    ·exact na h
    ·cases h
   ·split at h
    ·split at h
     ·split at h
      ·exact na h
      ·cases h
     ·exact na h
    ·exact na h
    ·cases h
  ·simp only[mm]at h
   split at h
   ·split at h
    ·exact na h
    ·cases h
   ·cases h
 | .alt x e r,c,s,b,h=>by
  simp only[fU]at h;have a:=UA h;simp only[mm]at a
  split at a
  ·split at a
   ·exact na a
   ·cases a
  ·cases a
theorem vR(B:YK cf lI G){kp:mo}:∀{is:KT} {tk R:M (M Nat×Nat)} {S:SS} {kn:Gs} {ρ:M D} {s:St} {t:ST} {outs:M SO},(∀p∈tk,p∈R)->Rel ρ S s->jt ρ kn=Z I->zM hint lI kp is R S kn ρ.length=Z (t,outs)->
  Fits G t outs ρ (Mg (fU cf mf kp is tk s))
 | .nil,tk,R,S,kn,ρ,s,t,outs,l,h,m,e=>by
  simp only[zM,aa]at e;exact vp (h.dL kp) m e
 | .alt ⟨j,q,al,dn,i⟩ is r,tk,R,S,kn,ρ,s,t,outs,l,h,m,e=>by
  simp only[zM]at e
  split at e
  ·rename_i ho
   split at e
   ·rename_i ta oa tb ob hA hB;generalize x:pg ob oa=q at e;obtain⟨f,X⟩:=q;simp only at e
    split at e
    ·rename_i ajI;cases e;obtain⟨q1,q2⟩:=pY x;have fA:Fits G ta oa ρ (Mg (mm cf mf ⟨j,q,al,dn,i⟩ tk s (fU cf mf kp is))):=by
      have Y:=QU h ho;have g:Mg (mm cf mf ⟨j,q,al,dn,i⟩ tk s (fU cf mf kp is))=(ux cf mf s i).bind λc=>if (jR j tk).all (λp=>!(eW s i.dst i.op).contains p.2 && (look c.bx p.2).isSome && !(i.dst ==Z p.2))=I then Mg (fU cf mf kp is (jR j tk) c) else O:=by
       simp only[mm];cases ux cf mf s i with
       |none=>rfl
       |some c=>simp only[dY];split<;>rfl
      rw[g];refine CT B h m (run:=λc=>if (jR j tk).all (λp=>!(eW s i.dst i.op).contains p.2 && (look c.bx p.2).isSome && !(i.dst ==Z p.2))=I then Mg (fU cf mf kp is (jR j tk) c) else O) (λS' U c t outs C Q k=>?_) hA
      split at k
      ·rename_i A;have hc:(jR j tk).all (λp=>!(eW s i.dst i.op).contains p.2 && (look c.bx p.2).isSome && !(i.dst ==Z p.2))=I:=by
        rw[bz];intro p y;have T:=wL (j:=j) l p y;obtain⟨N,L⟩:=Y p T;have h3:=bz.1 A p T;have h4:(look c.bx p.2).isSome=I:=by
         obtain⟨V,w⟩:=cy.1 h3;obtain⟨cs,W,_⟩:=C.bx p.2 V w;rw[W];rfl
        rw[N,L,h4];rfl
       show Fits G t outs U (if _ then _ else _);rw[if_pos hc];exact vR B (wL l) C Q k
      ·cases k
     have fB:=vR B l h m hB;intro j' σ hd;simp only[eZ]at hd;obtain⟨d1,d2⟩:=Uz hd;obtain⟨o,sA,g1,P,g3,g4⟩:=fA.more q2 j' σ d1;obtain⟨o',sB,w1,H,w3,w4⟩:=fB.map q1 j' σ d2;rw[g1]at w1;cases w1;have hA':∃a,mm cf mf ⟨j,q,al,dn,i⟩ tk s (fU cf mf kp is)=Z a:=by
      cases w:mm cf mf ⟨j,q,al,dn,i⟩ tk s (fU cf mf kp is) with
      |none=>rw[w]at P;cases P
      |some a=>exact⟨a,rfl⟩
     have hB':∃b,fU cf mf kp r tk s=Z b:=by
      cases w:fU cf mf kp r tk s with
      |none=>rw[w]at H;cases H
      |some a=>exact⟨a,rfl⟩
     obtain⟨a,A⟩:=hA';obtain⟨b,K⟩:=hB';have ka:∃s0:St,a=s0.dL kp:=by
      have F:=A;simp only[mm]at F
      split at F
      ·split at F
       ·exact na F
       ·cases F
      ·cases F
     obtain⟨a0,rfl⟩:=ka;obtain⟨b0,rfl⟩:=na K;rw[A]at P;rw[K]at H;simp only[Mg,aa,aC]at P H;obtain⟨ex,rfl⟩:=P;obtain⟨_,rfl⟩:=H;have he:=Wj g4 w4 (bz.1 ajI o (QQ g1));refine⟨o,_,g1,?_,g3,g4⟩;simp only[fU,A,K,both,he,if_true,Mg,ex]
    ·cases e
   ·cases e
  ·cases e
 | .op ⟨j,q,al,dn,i⟩ is,tk,R,S,kn,ρ,s,t,outs,l,h,m,e=>by
  simp only[zM]at e
  split at e
  ·rename_i x;subst x
   split at e
   ·rename_i y
    split at e
    ·rename_i b K;obtain⟨v,N,L⟩:=Xc (cf:=cf) (mf:=mf) (kp:=kp) (j:=j) (al:=al) (dn:=dn) (is:=is) (tk:=tk) h m y K;rw[L];have g:Mg ((ux cf mf s i).bind (fU cf mf kp is v))=(ux cf mf s i).bind λc=>Mg (fU cf mf kp is v c):=by cases ux cf mf s i<;>rfl
     rw[g];exact CT B h m (run:=λc=>Mg (fU cf mf kp is v c)) (λS' U c t outs C Q k=>vR B (λp y=>Ts l p (N p y)) C Q k) e
    ·cases e
   ·cases e
  ·rename_i x;have x:q=J:=by
    cases q with
    |false=>rfl
    |true=>exact absurd rfl x
   subst x
   split at e
   ·rename_i ho;have Y:=QU h ho;have g:Mg (fU cf mf kp (.op ⟨j,J,al,dn,i⟩ is) tk s)=(ux cf mf s i).bind λc=>if (jR j tk).all (λp=>!(eW s i.dst i.op).contains p.2 && (look c.bx p.2).isSome && !(i.dst ==Z p.2))=I then Mg (fU cf mf kp is (jR j tk) c) else O:=by
     simp only[fU,mm,aD,if_false];cases ux cf mf s i with
     |none=>rfl
     |some c=>simp only[dY];split<;>rfl
    rw[g];refine CT B h m (run:=λc=>if (jR j tk).all (λp=>!(eW s i.dst i.op).contains p.2 && (look c.bx p.2).isSome && !(i.dst ==Z p.2))=I then Mg (fU cf mf kp is (jR j tk) c) else O) (λS' U c t outs C Q k=>?_) e
    split at k
    ·rename_i A;have hc:(jR j tk).all (λp=>!(eW s i.dst i.op).contains p.2 && (look c.bx p.2).isSome && !(i.dst ==Z p.2))=I:=by
      rw[bz];intro p y;have T:=wL (j:=j) l p y;obtain⟨N,L⟩:=Y p T;have h3:=bz.1 A p T;have h4:(look c.bx p.2).isSome=I:=by
       obtain⟨V,w⟩:=cy.1 h3;obtain⟨cs,W,_⟩:=C.bx p.2 V w;rw[W];rfl
      rw[N,L,h4];rfl
     show Fits G t outs U (if _ then _ else _);rw[if_pos hc];exact vR B (wL l) C Q k
    ·cases k
   ·cases e
end
end
section
def Zg{a:Type}(k:a->u (ST×M SO)):M a->M SO->u (ST×M SO)
 |[],acc=>Z (.nil,acc)
 |v::b,acc=>match k v with
  |some (t,os)=>match pg os acc with
   |(f,e)=>match Zg k b e with
    |some (c,d)=>Z (.cons (L6 f t) c,d)
    |none=>O
  |none=>O
def FG:Nat->Nat->M SE
 |_,0=>[]
 |c,m+1=>.v c::FG (c+1) m
def idO(o:SO):ST×M SO:=(.leaf 0 (FG 0 o.m),[o])
def KL(id:Nat)(o:SO):SO:=if o.x=Z (Z id) then {o with x:=O } else o
def K1:M SO->M SO->M SO->M Nat×M SO×M SO
 |[],b,outs=>([],b,outs)
 |o::os,b,outs=>if o.x=O then (match FY o b with
   |(j,c)=>match K1 os c outs with
    |(f,r)=>(2 * j::f,r))
  else match FY o outs with
   |(j,a)=>match K1 os b a with
    |(f,r)=>((2 * j+1)::f,r)
def QD(k:SS->Nat->u (ST×M SO)):Nat->Nat->M SO->M SO->u (ST×M SO×M SO)
 |0,_,_,_=>O
 |fuel+1,i,b,outs=>match nth b i with
  |none=>Z (.nil,b,outs)
  |some o=>match k o.S o.m with
   |some (t,os)=>match K1 os b outs with
    |(f,d,a)=>match QD k fuel (i+1) d a with
     |some (c,r)=>Z (.cons (.map f t) c,r)
     |none=>O
   |none=>O
def acb(S:SS):SB->SB
 | .ref r=>match look S.rw r with
  |some x=>.d x.e
  |none=>.any
 | .nil k a=>.d (.k (.nil k a))
 |x=>x
def kn0:Gs:=[(.k (.bool I),I),(.k (.bool J),J)]
def pM(hint:M Nat)(g:M (Nat×nh)):K->SS->Nat->u (ST×M SO)
 | .skip,S,_=>Z (Ew O [] S)
 | .exit id,S,_=>Z (Ew (Z (Z id)) [] S)
 | .ret,S,_=>Z (Ew (Z O) [] S)
 | .Q5 ops q,S,m=>Fv hint g q ops S kn0 m
 | .TK ops q,S,m=>zM hint g q ops [] S kn0 m
 | .seq a b,S,m=>match pM hint g a S m with
  |some (n,p)=>match Zg (λo=>if o.x=O then pM hint g b o.S o.m else Z (idO o)) p []with
   |some (l,outs)=>Z (.seq n l,outs)
   |none=>O
  |none=>O
 | .cond c a b,S,m=>match sD (fZ S [] c),pM hint g a S m,pM hint g b S m with
  |some e,Z (n,p),Z (s,v)=>match pg v p with
   |(f,outs)=>Z (.gd [(e,I)] n (L6 f s),outs)
  |_,_,_=>O
 | .block id a,S,m=>match pM hint g a S m with
  |some (t,outs)=>match pg (outs.map (KL id)) []with
   |(f,h)=>Z (L6 f t,h)
  |none=>O
 | .share r a,S,m=>match pe S [r]with
  |some i=>pM hint g a i m
  |none=>O
 | .Kk d a,S,m=>match look S.sl d with
  |some ⟨[],.b (.ref r)⟩=>match look S.rw r with
   |some x=>pM hint g a ((S.setRow r x.share).put (Z d) ⟨[],.b (.d x.e)⟩) m
   |none=>O
  |some ⟨[],.b (.d _)⟩=>pM hint g a S m
  |some ⟨[],.b (.nil k w)⟩=>pM hint g a (S.put (Z d) ⟨[],.b (.d (.k (.nil k w)))⟩) m
  |some ⟨[],.ptr b 0⟩=>match look S.bx b with
   |some j=>match pe S (gJ j) with
    |some i=>if j.all SB.cell=I then pM hint g a (i.gl b (j.map (acb S))) m else O
    |none=>O
   |none=>O
  |_=>O
 | .loop a,S,m=>match Rz [] S with
  |(i,es)=>match QD (pM hint g a) 40 0 [⟨O,i,es.length⟩] []with
   |some (l,_,outs)=>Z (.loop 0 es l,outs)
   |none=>O
section
variable {ρ:M D} {S:SS} {s:St} {G:Gf} {T:Nat->u KF} {mf:Mf} {lI:M (Nat×nh)} {hint:M Nat}
theorem PM{n:Type}{k:n->u (ST×M SO)}:∀{e:M n} {a b:M SO} {c:ST},Zg k e a=Z (c,b)->
  (∀i x,nth a i=Z x->nth b i=Z x)/\∀j v,nth e j=Z v->∃t os,k v=Z (t,os)/\∀run ρ,Fits G t os ρ run->T_ G c j b ρ run
 |[],a,b,c,h=>by cases h;exact⟨λ_ _ l=>l,λj v B=>(by cases B)⟩
 |v::e,a,b,c,h=>by
  simp only[Zg]at h
  split at h
  ·rename_i t os H;generalize C:pg os a=q at h;obtain⟨f,V⟩:=q;simp only at h
   split at h
   ·rename_i y U K;cases h;obtain⟨P,N⟩:=pY C;obtain⟨r,L⟩:=PM K;refine⟨λi x l=>r i x (N i x l),λj w p=>?_⟩;cases j with
    |zero=>
     cases p;refine⟨t,os,H,λrun ρ m i d hd=>?_⟩;have:=m.map (f:=f) (outs':=b) (λi o F=>by obtain⟨j,q1,q2⟩:=P i o F;exact⟨j,q1,r j o q2⟩);exact this i d hd
    |succ j=>
     obtain⟨A,g,R,Q⟩:=L j w p;exact⟨A,g,R,λrun ρ m i d hd=>Q run ρ m i d hd⟩
   ·cases h
  ·cases h
theorem MV:∀{σ σ0:M D},jc (σ0++σ) (FG σ0.length σ.length)=Z σ
 |[],_=>rfl
 |x::σ,σ0=>by
  have c:SE.d (σ0++x::σ) (.v σ0.length)=Z x:=jX σ0 x σ;have a:=MV (σ:=σ) (σ0:=σ0++[x]);rw[a_,bB]at a;simp only[aG,FG,jc,c];have b:jc (σ0++x::σ) (FG (σ0.length+1) σ.length)=Z σ:=a;rw[b];rfl
theorem acJ{o:SO}(a:ρ.length=o.m)(h:Rel ρ o.S s):Fits G (idO o).1 (idO o).2 ρ (Z (RP o.x,s)):=by
 intro j σ hd;simp only[idO,eZ]at hd;have:=MV (σ:=ρ) (σ0:=[]);simp only[av,aP,a]at this;rw[this]at hd;cases hd;exact⟨o,s,rfl,rfl,a,h⟩
theorem Ix:∀{os e outs:M SO} {f:M Nat} {g a:M SO},K1 os e outs=(f,g,a)->
  (∀i x,nth e i=Z x->nth g i=Z x)/\(∀i x,nth outs i=Z x->nth a i=Z x)/\
  ∀i o,nth os i=Z o->∃c,nth f i=Z c/\if o.x=O then (∃j,c=2 * j/\nth g j=Z o) else ∃j,c=2 * j+1/\nth a j=Z o
 |[],e,outs,f,g,a,h=>by cases h;exact⟨λ_ _ h=>h,λ_ _ h=>h,λi o B=>(by cases B)⟩
 |o::os,e,outs,f,g,a,h=>by
  simp only[K1]at h
  split at h
  ·rename_i b;generalize r:FY o e=q at h;obtain⟨j,F⟩:=q;simp only at h
   generalize d:K1 os F outs=q at h;obtain⟨C,n,y⟩:=q;cases h;obtain⟨w,v⟩:=Cn o r;obtain⟨m,l,t⟩:=Ix d;refine⟨λi x b=>m i x (v i x b),l,λi p k=>?_⟩;cases i with
   |zero=>cases k;exact⟨2 * j,rfl,by rw[if_pos b];exact⟨j,rfl,m j _ w⟩⟩
   |succ i=>exact t i p k
  ·rename_i b;generalize r:FY o outs=q at h;obtain⟨j,A⟩:=q;simp only at h
   generalize d:K1 os e A=q at h;obtain⟨C,n,y⟩:=q;cases h;obtain⟨w,v⟩:=Cn o r;obtain⟨m,l,t⟩:=Ix d;refine⟨m,λi x b=>l i x (v i x b),λi p k=>?_⟩;cases i with
   |zero=>cases k;exact⟨2 * j+1,rfl,by rw[if_neg b];exact⟨j,rfl,l j _ w⟩⟩
   |succ i=>exact t i p k
theorem L0{k:SS->Nat->u (ST×M SO)}:∀{d i:Nat} {g outs H a:M SO} {n:ST},QD k d i g outs=Z (n,H,a)->
  (∀j x,nth g j=Z x->nth H j=Z x)/\(∀j x,nth outs j=Z x->nth a j=Z x)/\
  ∀j o,nth H (i+j)=Z o->∃t os f,k o.S o.m=Z (t,os)/\(∀ρ,eZ G n j ρ=eZ G (.map f t) 0 ρ)/\∀l b,nth os l=Z b->∃c,nth f l=Z c/\if b.x=O then (∃j,c=2 * j/\nth H j=Z b) else ∃j,c=2 * j+1/\nth a j=Z b
 |0,_,_,_,_,_,_,h=>by cases h
 |d+1,i,g,outs,H,a,n,h=>by
  simp only[QD]at h
  split at h
  ·rename_i X;cases h;refine⟨λ_ _ h=>h,λ_ _ h=>h,λj o C=>?_⟩
   exfalso
   have L:=A7 C;have K:∀{l:M SO} {i:Nat},nth l i=O->l.length<=i:=by
    intro l
    induction l with
    |nil=>intro i _;exact nU _
    |cons x l U=>
     intro i N;cases i with
     |zero=>cases N
     |succ i=>have:=U (i:=i) N;simp only[aG];omega
   have:=K X;omega
  ·rename_i o C
   split at h
   ·rename_i t os hk;generalize W:K1 os g outs=q at h;obtain⟨f,pq,y⟩:=q;simp only at h
    split at h
    ·rename_i Q r V;obtain⟨H',O'⟩:=r;cases h;obtain⟨L,K,h3⟩:=Ix W;obtain⟨F,P,h6⟩:=L0 V;refine⟨λj x e=>F j x (L j x e),λj x e=>P j x (K j x e),λj p B=>?_⟩;cases j with
     |zero=>
      rw[dx,F i o (L i o C)]at B;cases B;refine⟨t,os,f,hk,λρ=>rfl,λl b Y=>?_⟩;obtain⟨c,q1,q2⟩:=h3 l b Y;refine⟨c,q1,?_⟩
      split at q2
      ·rename_i e;rw[if_pos e];obtain⟨j,w,v⟩:=q2;exact⟨j,w,F j b v⟩
      ·rename_i e;rw[if_neg e];obtain⟨j,w,v⟩:=q2;exact⟨j,w,P j b v⟩
     |succ j=>
      obtain⟨R,A,f',g1,g2,g3⟩:=h6 j p (by rw[cO,Nat.add_comm 1 j];exact B);exact⟨R,A,f',g1,λρ=>g2 ρ,g3⟩
    ·cases h
   ·cases h
theorem XP{g:St->u (Ex×St)}{x:SX}{s:St}(h:x≠O):Gu g (Z (RP x,s))=Z (RP x,s):=by
 cases x with
 |none=>exact absurd rfl h
 |some y=>cases y<;>rfl
theorem afh{id:Nat}{o:SO}{s:St}:Ux id (Z (RP o.x,s))=Z (RP (KL id o).x,s):=by
 unfold KL;split
 ·rename_i h;rw[h];simp[RP,Ux]
 ·rename_i h;rcases a:o.x with _|_|i
  ·rfl
  ·rfl
  ·have:i≠id:=by rintro rfl;exact h a
   simp[RP,Ux,this]
theorem Mh{a β:Type}(f:a->β):∀{l:M a} {i:Nat} {x:a},nth l i=Z x->nth (l.map f) i=Z (f x)
 |_::_,0,_,h=>by cases h;rfl
 |_::l,i+1,_,h=>Mh f (l:=l) h
 |[],_,_,h=>by cases h
theorem Fh:∀{c:M Nat} {S d:SS},pe S c=Z d->∀r∈c,∃x y,look S.rw r=Z x/\look d.rw r=Z y
 |[],_,_,_,r,e=>by cases e
 |q::c,S,d,h,r,e=>by
  simp only[pe]at h
  split at h
  ·rename_i x k;have dL:∀{c:M Nat} {S d:SS} {r:Nat} {y:SR},pe S c=Z d->look S.rw r=Z y->∃b,look d.rw r=Z b:=by
    intro c
    induction c with
    |nil=>intro S d r y h g;cases h;exact⟨y,g⟩
    |cons a c i=>
     intro S d r y h g;simp only[pe]at h
     split at h
     ·rename_i b j;by_cases f:a=r
      ·exact i h (y:=b.share) (by simp[SS.setRow,look,f])
      ·exact i h (y:=y) (by simp only[SS.setRow,look,if_neg f,eN];exact g)
     ·cases h
   rcases aI.1 e with rfl|e
   ·obtain⟨b,j⟩:=dL h (r:=r) (y:=x.share) (by simp[SS.setRow,look]);exact⟨x,b,k,j⟩
   ·obtain⟨n,y,m,l⟩:=Fh h r e;by_cases f:q=r
    ·exact⟨x,y,f▸k,l⟩
    ·simp only[SS.setRow,look,if_neg f,eN]at m;exact⟨n,y,m,l⟩
  ·cases h
theorem PD(h:Rel ρ S s):∀{f:M SB} {i:M C},(∀r∈gJ f,∃x,look S.rw r=Z x)->eQ ρ f i->eQ ρ (f.map (acb S)) (i.map (NA s))
 |[],_,_,l=>by simp only[eQ]at l;subst l;rfl
 |x::f,_,m,⟨c,i,o,b,n⟩=>by
  subst o;refine⟨_,_,rfl,?_,PD h (λr q=>m r (by cases x<;>simp_all[gJ])) n⟩;cases x with
  |ref r=>
   obtain⟨y,j⟩:=m r (by simp[gJ]);obtain⟨a,g,es,p,rfl⟩:=h.rw r y j;simp only[kv]at b;subst b;simp only[acb,j,NA,g];exact⟨_,p,rfl⟩
  |d e=>obtain⟨y,g,rfl⟩:=b;exact⟨y,g,rfl⟩
  |nil k t=>simp only[kv]at b;subst b;exact⟨_,rfl,rfl⟩
  |any=>trivial
theorem mN(F:YK (ej T) lI G):∀(k:K) {S:SS} {ρ:M D} {s:St} {t:ST} {outs:M SO},Rel ρ S s->pM hint lI k S ρ.length=Z (t,outs)->Fits G t outs ρ (ev T mf k s)
 | .skip,S,ρ,s,t,outs,h,n=>by
  simp only[pM,aa]at n;rw[PK];exact vp h rfl n
 | .exit id,S,ρ,s,t,outs,h,n=>by
  simp only[pM,aa]at n;rw[PJ];exact vp h rfl n
 | .ret,S,ρ,s,t,outs,h,n=>by
  simp only[pM,aa]at n;rw[Vt];exact vp h rfl n
 | .Q5 ops kp,S,ρ,s,t,outs,h,n=>by
  simp only[pM]at n;rw[Vs];exact HZ F h rfl n
 | .TK ops kp,S,ρ,s,t,outs,h,n=>by
  simp only[pM]at n;rw[Vr];exact vR F (λ_ hp=>hp) h rfl n
 | .seq a b,S,ρ,s,t,outs,h,n=>by
  simp only[pM]at n
  split at n
  ·rename_i ta oa hA
   split at n
   ·rename_i ts P hf;cases n;have Q:=mN F a h hA;obtain⟨_,W⟩:=PM (G:=G) hf;intro j σ hd;simp only[eZ]at hd
    split at hd
    ·rename_i j0 R h0;obtain⟨o,C,g1,g2,g3,g4⟩:=Q j0 R h0;obtain⟨t',os',g5,g6⟩:=W j0 o g1;rw[Vu,g2]
     split at g5
     ·rename_i L;rw[<- g3]at g5;have hfb:=mN F b g4 g5;rw[L];exact g6 _ R hfb j σ hd
     ·rename_i L;simp only[aa]at g5;have hi:=acJ (G:=G) g3 g4;rw[g5]at hi;rw[XP L];exact g6 _ R hi j σ hd
    ·cases hd
   ·cases n
  ·cases n
 | .cond c a b,S,ρ,s,t,outs,h,n=>by
  simp only[pM]at n
  split at n
  ·rename_i e ta oa tb ob hc hA hB;generalize hq:pg ob oa=q at n;obtain⟨f,P⟩:=q;cases n;obtain⟨q1,q2⟩:=pY hq;obtain⟨y,V,X⟩:=l7 h (gs:=[]) rfl hc;rw[IK,X];refine PW (λhg=>?_) λhg=>?_
   ·have:=oc hg (e,I) (by simp);simp only[V,aa]at this;subst this;exact (mN F a h hA).more q2
   ·obtain⟨p,hp,he⟩:=DG hg;simp only[db]at hp;subst hp;simp only[V,aa]at he;subst he;exact (mN F b h hB).map q1
  ·cases n
 | .block id a,S,ρ,s,t,outs,h,n=>by
  simp only[pM]at n
  split at n
  ·rename_i t' abQ hA;generalize hq:pg (abQ.map (KL id)) []=q at n;obtain⟨f,P⟩:=q;cases n;obtain⟨q1,_⟩:=pY hq;have Q:=mN F a h hA;rw[Lf];refine Fits.map (outs:=abQ.map (KL id)) ?_ q1;intro j σ hd;obtain⟨o,C,g1,g2,g3,g4⟩:=Q j σ hd;refine⟨KL id o,C,Mh _ g1,by rw[g2,afh],?_,?_⟩
   ·rw[g3];unfold KL;split<;>rfl
   ·unfold KL;split<;>exact g4
  ·cases n
 | .share r a,S,ρ,s,t,outs,h,n=>by
  simp only[pM]at n
  split at n
  ·rename_i S' hS;rw[Lg];exact mN F a (pW h hS) n
  ·cases n
 | .Kk d a,S,ρ,s,t,outs,h,n=>by
  simp only[pM]at n;rw[Vq];have U:∀{c:SC},look S.sl d=Z ⟨[],c⟩->lN ρ c (s.get d):=λA=>by
   obtain⟨b,Y,W,_⟩:=h.sl d _ A;cases Y;exact W rfl
  split at n
  ·rename_i r A;have N:=U A;simp only[lN,kv]at N
   split at n
   ·rename_i x L;obtain⟨y,Y,es,W,rfl⟩:=h.rw r x L;have hd:s_ s d=Z ((fc s [r]).put (Z d) (.d (.list x.k x.fl es))):=by simp only[s_,N,Y]
    rw[hd,dY];refine mN F a (Rel.put ?_ _ (ry.nil (c:=.b (.d x.e)) ⟨_,W,rfl⟩)) n;have:=pW (rs:=[r]) (S':=S.setRow r x.share) h (by simp[pe,L]);exact this
   ·cases n
  ·rename_i e A;obtain⟨y,_,N⟩:=U A;have hd:s_ s d=Z s:=by simp only[s_,N]
   rw[hd,dY];exact mN F a h n
  ·rename_i k fl A;have N:=U A;simp only[lN,kv]at N;have hd:s_ s d=Z (s.put (Z d) (.d (.list k fl []))):=by simp only[s_,N]
   rw[hd,dY];exact mN F a (h.put _ (ry.nil (c:=.b (.d (.k (.nil k fl)))) ⟨_,rfl,rfl⟩)) n
  ·rename_i b A;have N:=U A;simp only[lN]at N
   split at n
   ·rename_i xs L
    split at n
    ·rename_i S' hS
     split at n
     ·rename_i hc;obtain⟨cs,Y,W⟩:=h.bx b xs L;have uo:=oC W hc;have hd:s_ s d=Z ((fc s (rowsOf cs)).gl b (cs.map (NA s))):=by simp only[s_,N,Y]
      rw[hd,dY,uo];refine mN F a (Rel.gl (pW h hS) b ?_) n;exact PD h (λr hm=>by obtain⟨x,_,g,_⟩:=Fh hS r hm;exact⟨x,g⟩) W
     ·cases n
    ·cases n
   ·cases n
  ·cases n
 | .loop a,S,ρ,s,t,outs,h,n=>by
  simp only[pM]at n;generalize hq:Rz [] S=q at n;obtain⟨S',es⟩:=q;simp only at n
  split at n
  ·rename_i ts H i hL;cases n;obtain⟨Y,_,h3⟩:=L0 (G:=G) hL;intro j σ hd;simp only[eZ]at hd
   split at hd
   ·rename_i R h0;have mF:=NV hd;have step:∀{p:Nat×M D} {sg:Sg (Nat×M D) (Nat×M D)} {o:SO} {s:St},DF (eZ G ts p.1 p.2)=Z sg->nth H p.1=Z o->p.2.length=o.m->Rel p.2 o.S s->
      ∃w C j v,ev T mf a s=Z (RP w.x,C)/\v.length=w.m/\Rel v w.S C/\((w.x=O/\sg=.go (j,v)/\nth H j=Z w)\/(w.x≠O/\sg=.out (j,v)/\nth outs j=Z w)):=by
     intro p sg o s B ho A hR;obtain⟨t,os,f,g1,g2,g3⟩:=h3 p.1 o (by rw[bu];exact ho);rw[g2]at B;simp only[eZ]at B;rw[<- A]at g1;have Q:=mN F a hR g1
     split at B
     ·rename_i l v h0;obtain⟨w,C,V,X,w3,w4⟩:=Q l v h0;obtain⟨c,q1,q2⟩:=g3 l w V;rw[q1]at B;simp only[aQ,DF,aa]at B;refine⟨w,C,c / 2,v,X,w3,w4,?_⟩
      split at q2
      ·rename_i L;obtain⟨j,rfl,q3⟩:=q2;rw[if_pos (by omega)]at B;have e:2 * j / 2=j:=by omega
       exact .inl ⟨L,B.symm,by rw[e];exact q3⟩
      ·rename_i L;obtain⟨j,rfl,q3⟩:=q2;rw[if_neg (by omega)]at B;have e:(2 * j+1) / 2=j:=by omega
       exact .inr ⟨L,B.symm,by rw[e];exact q3⟩
     ·cases B
    have main:∀{p r:Nat×M D},Ab (λp=>DF (eZ G ts p.1 p.2)) p r->∀{o:SO} {s:St},nth H p.1=Z o->p.2.length=o.m->Rel p.2 o.S s->∃w C,nth outs r.1=Z w/\ev T mf (.loop a) s=Z (RP w.x,C)/\r.2.length=w.m/\Rel r.2 w.S C:=by
     intro p r N
     induction N with
     |out B=>
      intro o s ho A hR;obtain⟨w,C,j,v,V,X,w3,w4⟩:=step B ho A hR;rcases w4 with ⟨_,w5,_⟩|⟨w5,w6,w7⟩
      ·cases w5
      ·cases w6;exact⟨w,C,w7,by rw[gX,V,XP w5],X,w3⟩
     |go B CC ih=>
      intro o s ho A hR;obtain⟨w,C,j,v,V,X,w3,w4⟩:=step B ho A hR;rcases w4 with ⟨w5,w6,w7⟩|⟨_,w6,_⟩
      ·cases w6;obtain⟨o2,s2,v1,v2,v3⟩:=ih w7 X w3;refine⟨o2,s2,v1,?_,v3⟩;rw[gX,V,w5];exact v2
      ·cases w6
    exact main mF (Y 0 _ rfl) (lx h0) (Py h rfl hq h0)
   ·cases hd
  ·cases n
end
end
section
def xB:Nat->M SA->Nat->SS->u SS
 |_,[],_,S=>Z S
 |p,.val d l::as,c,S=>match N9 p 0 l c S with
  |(xs,a)=>if d=I then xB (p+1) as (c+l.length) (a.put (Z p) ⟨[],.agg xs⟩) else match xs with
   |[x]=>xB (p+1) as (c+l.length) (a.put (Z p) ⟨[],.b x⟩)
   |_=>O
 |p,.box l::as,c,S=>match N9 (p+500) 0 l c S with
  |(xs,a)=>xB (p+1) as (c+l.length) ((a.lY (900+p) xs).put (Z p) ⟨[],.ptr (900+p) 0⟩)
def wrA(S:SS)(b:Bool)(a:M SB):u (SA×M SE×M Nat):=
 match gH (wrS S) a with
 |some l=>Z (.val b (l.map (·.1)),l.map (·.2),gJ a)
 |none=>O
def Q7(S:SS):KR->u (SA×M SE×M Nat)
 | .t d=>match look S.sl d with
  |some ⟨[],c⟩=>match c.cells with
   |some a=>wrA S c.isAgg a
   |none=>O
  |_=>O
 | .c d n=>match look S.sl d with
  |some ⟨[],.ptr b 0⟩=>match look S.bx b with
   |some a=>if n=0 then (match a with
     |[x]=>wrA S J [x]
     |_=>O) else if a.length=n then wrA S I a else O
   |none=>O
  |_=>O
def JR(S:SS):M KR->u (M SA×M SE×M Nat)
 |[]=>Z ([],[],[])
 |r::rs=>match Q7 S r,JR S rs with
  |some (a,es,l),Z (as,fs,b)=>Z (a::as,es++fs,l++b)
  |_,_=>O
def Ba(S:SS):Nat->M SA->u (M SA×M SE×M Nat)
 |_,[]=>Z ([],[],[])
 |p,.val _ _::as=>Ba S (p+1) as
 |p,.box _::as=>match look S.bx (900+p) with
  |some a=>match gH (wrS S) a,Ba S (p+1) as with
   |some l,Z (c,fs,b)=>Z (.box (l.map (·.1))::c,l.map (·.2)++fs,gJ a++b)
   |_,_=>O
  |none=>O
def idxOf{a:Type}[DecidableEq a](x:a):M a->u Nat
 |[]=>O
 |y::l=>if y=x then Z 0 else (idxOf x l).map (·+1)
def Ju(c:KF)(a:nh)(o:SO):u ST:=
 if o.x=O\/o.x=Z O then
  match JR o.S c.res,Ba o.S 0 a.args with
  |some (rs,es,l),Z (os,fs,b)=>if kG (l++b)=I then (match idxOf (rs,os) a.res with
   |some j=>Z (.leaf j (es++fs))
   |none=>O) else O
  |_,_=>O
 else O
def CE(b:KF)(a:nh):M SO->u ST
 |[]=>Z .nil
 |o::os=>match Ju b a o,CE b a os with
  |some t,Z c=>Z (.cons t c)
  |_,_=>O
def Xu(hint:M Nat)(d:M (Nat×nh))(b:KF)(a:nh):u ST:=
 match xB 0 a.args 0 ⟨[],[],[]⟩ with
 |some S=>match pM hint d b.body S (yE a.args) with
  |some (t,outs)=>match CE b a outs with
   |some c=>Z (.seq t c)
   |none=>O
  |none=>O
 |none=>O
section
variable {ρ:M D} {S:SS} {s:St}
theorem v7:∀{l:M SA} {p c:Nat} {S j:SS} {s:St} {e:M D} {as:M A},Rel ρ S s->iI l e=Z as->Loc ρ c e->xB p l c S=Z j->Rel ρ j (jW p as s)
 |[],p,c,S,j,s,e,as,h,g,f,d=>by
  cases e with
  |nil=>cases g;cases d;exact h
  |cons a e=>cases g
 | .val P l::as,p,c,S,j,s,e,rs,h,g,f,d=>by
  obtain⟨r,K,i,n,rfl⟩:=jf g;simp only[nz]at i;obtain⟨B,w,rfl⟩:=aj.1 i;simp only[xB]at d;generalize v:N9 p 0 l c S=q at d;obtain⟨x,H⟩:=q;simp only at d
  obtain⟨y,F,t,m,k⟩:=AF h w (f.take _) v;simp only[jW,Aq,t]
  split at d
  ·rename_i o;rw[if_pos o];exact v7 (m.put (Z p) (ry.nil (c:=.agg x) ⟨y,rfl,k⟩)) n (f.drop _) d
  ·rename_i o;rw[if_neg o]
   split at d
   ·obtain⟨N,G,rfl,C,L⟩:=k;exact v7 (m.put (Z p) (ry.nil (c:=.b _) C)) n (f.drop _) d
   ·cases d
 | .box l::as,p,c,S,j,s,e,rs,h,g,f,d=>by
  obtain⟨r,K,i,n,rfl⟩:=jf g;simp only[nz]at i;obtain⟨B,w,rfl⟩:=aj.1 i;simp only[xB]at d;generalize v:N9 (p+500) 0 l c S=q at d;obtain⟨x,H⟩:=q;simp only at d
  obtain⟨y,F,t,m,k⟩:=AF h w (f.take _) v;simp only[jW,Aq,t];exact v7 ((m.lY (900+p) k).put (Z p) ry.ptr) n (f.drop _) d
theorem Ph(h:Rel ρ S s){f:M SB}{e:M C}{k:Bool}{a:SA}{es:M SE}{l:M Nat}(g:eQ ρ f e)(c:wrA S k f=Z (a,es,l)) :
  ∃d b,jc ρ es=Z d/\gH (kc s) e=Z b/\nz a d=Z (.val k b)/\d.length=a.n/\rowsOf e=l:=by
 unfold wrA at c
 split at c
 ·rename_i q i;cases c;obtain⟨ys,b,o,m,j⟩:=CV h g i;exact⟨ys,b,o,m,by simp only[nz,j,aQ],n9 j,oC g (sG (p:=SB.cell) (λ_ _=>zV) i)⟩
 ·cases c
theorem X_{b:M SB}{d:Bool}{r:SA×M SE×M Nat}(a:wrA S d b=Z r):b.all SB.cell=I:=by
 unfold wrA at a
 split at a
 ·rename_i e c;exact sG (p:=SB.cell) (λ_ _=>zV) c
 ·cases a
theorem ab2{c:SC}{v:C}{a:M SB}(d:lN ρ c v)(e:c.cells=Z a)(f:a.all SB.cell=I):v.isAgg=c.isAgg:=by
 cases c with
 |b x=>
  cases e;have:=kv.cell d (by simpa using f);cases v<;>first|rfl|cases this
 |agg ys=>obtain⟨g,rfl,_⟩:=d;rfl
 |_=>cases e
theorem Xk(h:Rel ρ S s){r:KR}{a:SA}{es:M SE}{l:M Nat}(e:Q7 S r=Z (a,es,l)):∃f x,JQ s r=Z (x,l)/\jc ρ es=Z f/\nz a f=Z x/\f.length=a.n:=by
 cases r with
 |t d=>
  simp only[Q7]at e
  split at e
  ·rename_i c q;obtain⟨b,w,v,_⟩:=h.sl d _ q;cases w;have i:=v rfl
   split at e
   ·rename_i y G;have F:=X_ e;obtain⟨f,C,q1,q2,k,j,g⟩:=Ph h (i.cells G F) e;have A:=ab2 i G F;simp only at A q2 g
    exact⟨f,_,by simp only[JQ,q2,aQ,A,g],q1,k,j⟩
   ·cases e
  ·cases e
 |c d n=>
  simp only[Q7]at e
  split at e
  ·rename_i b q;obtain⟨R,w,v,_⟩:=h.sl d _ q;cases w;have i:=v rfl;simp only[lN]at i
   split at e
   ·rename_i y K;obtain⟨P,H,o⟩:=h.bx _ y K
    split at e
    ·rename_i p
     split at e
     ·rename_i x;obtain⟨f,C,q1,q2,k,j,g⟩:=Ph h o e;obtain⟨Q,L,rfl,N,B⟩:=o;simp only[eQ]at B;subst B;exact⟨f,_,by simp only[JQ,i,H,p,if_true,q2,aQ,g],q1,k,j⟩
     ·cases e
    ·rename_i p
     split at e
     ·rename_i m;obtain⟨f,C,q1,q2,k,j,g⟩:=Ph h o e;exact⟨f,_,by simp only[JQ,i,H,if_neg p];rw[if_pos (by rw[o.len,m]),q2];simp only[aQ,g],q1,k,j⟩
     ·cases e
   ·cases e
  ·cases e
theorem G7:∀{a:SA} {as:M SA} {b c:M D} {x:A} {d:M A},nz a b=Z x->b.length=a.n->iI as c=Z d->iI (a::as) (b++c)=Z (x::d):=by
 intro a as b c x d g e f;simp only[iI,take_left' e,drop_left' e,g,f,aQ]
theorem HS(h:Rel ρ S s):∀{e:M KR} {as:M SA} {es:M SE} {l:M Nat},JR S e=Z (as,es,l)->∃d c,zD s e=Z (c,l)/\jc ρ es=Z d/\iI as d=Z c
 |[],_,_,_,b=>by cases b;exact⟨[],[],rfl,rfl,rfl⟩
 |r::e,as,es,l,b=>by
  simp only[JR]at b
  split at b
  ·rename_i a v q t fs p o n;cases b;obtain⟨d,x,q1,q2,m,k⟩:=Xk h o;obtain⟨j,c,i,g,f⟩:=HS h n;exact⟨d++j,x::c,by simp only[zD,q1,i,aQ],qU q2 g,G7 m k f⟩
  ·cases b
theorem Bb(h:Rel ρ S s):∀{args:M SA} {as:M A} {e:M D} {p:Nat} {i:M SA} {es:M SE} {l:M Nat},iI args e=Z as->Ba S p args=Z (i,es,l)->∃d c,vG s p as=Z (c,l)/\jc ρ es=Z d/\iI i d=Z c
 |[],as,e,p,i,es,l,f,b=>by
  cases e with
  |nil=>cases f;cases b;exact⟨[],[],rfl,rfl,rfl⟩
  |cons a e=>cases f
 | .val R B::args,as,e,p,i,es,l,f,b=>by
  obtain⟨r,L,g,n,rfl⟩:=jf f;simp only[nz]at g;obtain⟨x,G,rfl⟩:=aj.1 g;simp only[Ba]at b;obtain⟨d,c,m,k,j⟩:=Bb h n b;exact⟨d,c,by simp only[vG,S_,m,aQ,av],k,j⟩
 | .box B::args,as,e,p,i,es,l,f,b=>by
  obtain⟨r,L,g,n,rfl⟩:=jf f;simp only[nz]at g;obtain⟨x,G,rfl⟩:=aj.1 g;simp only[Ba]at b
  split at b
  ·rename_i c F
   split at b
   ·rename_i N K fs P t C;cases b;obtain⟨Q,H,v⟩:=h.bx _ c F;obtain⟨ys,y,q1,q2,q⟩:=CV h v t;obtain⟨d,w,m,k,j⟩:=Bb h n C;have o:=oC v (sG (p:=SB.cell) (λ_ _=>zV) t);refine⟨ys++d,.box y::w,?_,qU q1 k,G7 (by simp only[nz,q,aQ]) (n9 q) j⟩;simp only[vG,S_,H,q2,m,aQ,o,au,av]
   ·cases b
  ·cases b
theorem LJ{a:Type}[DecidableEq a]{x:a}:∀{l:M a} {j:Nat},idxOf x l=Z j->nth l j=Z x
 |[],_,h=>by cases h
 |y::l,j,h=>by
  simp only[idxOf]at h
  split at h
  ·rename_i b;cases h;rw[b];rfl
  ·obtain⟨d,c,rfl⟩:=aj.1 h;exact LJ (l:=l) c
theorem U2{v:M SA×M SA}{a b:M D}{c os:M A}(e:iI v.1 a=Z c)(f:iI v.2 b=Z os):yL v (a++b)=Z (c,os):=by
 have d:=pP e;simp only[yL,take_left' d,drop_left' d,e,f]
theorem SU{G:Gf}{d:KF}{c:nh}{o:SO}{t:ST}{as:M A}{m:M D}(h:Rel ρ o.S s)(y:iI c.args m=Z as)(a:Ju d c o=Z t){j:Nat}{e:M D}(hd:eZ G t 0 ρ=Z (j,e)) :
  ∃v r,nth c.res j=Z v/\yL v e=Z r/\fin d as (Z (RP o.x,s))=Z r:=by
 unfold Ju at a
 split at a
 ·rename_i b
  split at a
  ·rename_i n es l os fs K C B
   split at a
   ·rename_i q
    split at a
    ·rename_i L w;cases a;obtain⟨F,f,q1,q2,p⟩:=HS h C;obtain⟨H,ys,k,i,g⟩:=Bb h y B;simp only[eZ,qU q2 i,aa,aC]at hd;obtain⟨rfl,rfl⟩:=hd;refine⟨(n,os),(f,ys),LJ w,U2 p g,?_⟩;have:leave d as s=Z (f,ys):=by simp only[leave,q1,k,q,if_true]
     rcases b with b|b<;>(rw[b];exact this)
    ·cases a
   ·cases a
  ·cases a
 ·cases a
theorem Ez{G:Gf}{d:KF}{c:nh}:∀{outs:M SO} {a:ST},CE d c outs=Z a->∀j o,nth outs j=Z o->∃t,Ju d c o=Z t/\∀ρ,eZ G a j ρ=eZ G t 0 ρ
 |[],a,h,j,o,b=>by cases b
 |p::outs,a,h,j,o,b=>by
  simp only[CE]at h
  split at h
  ·rename_i t e i g;cases h;cases j with
   |zero=>cases b;exact⟨t,i,λρ=>rfl⟩
   |succ j=>
    obtain⟨f,l,k⟩:=Ez (G:=G) g j o b;exact⟨f,l,λρ=>k ρ⟩
  ·cases h
theorem aa4{T:Nat->u KF}{w:M (Nat×nh)}{G:Gf}(U:YK (ej T) w G){hint:M Nat}{f:Nat}{e:KF}(N:T f=Z e)(V:e.np≠999){k:nh}(V1:k.args.length=e.np){t:ST}(b:Xu hint w e k=Z t)
  {q d:M D} {as:M A} {j:Nat} (n:iI k.args q=Z as) (hd:eZ G t 0 q=Z (j,d)):∃v r,nth k.res j=Z v/\yL v d=Z r/\ej T f as=Z r:=by
 have g:∀{l:M SA} {d:M D} {m:M A},iI l d=Z m->m.length=l.length:=by
  intro l
  induction l with
  |nil=>intro d m h;cases d<;>cases h;rfl
  |cons a l K=>
   intro d m h;obtain⟨r,Gn,_,W,rfl⟩:=jf h;simp[K W]
 unfold Xu at b
 split at b
 ·rename_i S P
  split at b
  ·rename_i t0 outs B
   split at b
   ·rename_i ts R;cases b;have X:Rel q ⟨[],[],[]⟩ ⟨[],[],[]⟩:=⟨λ_ _ h=>(by cases h),λ_ _ h=>(by cases h),λ_ _ h=>(by cases h)⟩
    have Q:=v7 X n (c:=0) (λi x L=>by rw[bu];exact L) P;rw[<- pP n]at B;have AB:=mN (mf:=wY) U e.body Q B;simp only[eZ]at hd
    split at hd
    ·rename_i y p P8;obtain⟨o,s',g1,g2,g3,g4⟩:=AB y p P8;obtain⟨t',g5,Y⟩:=Ez (G:=G) R y o g1;rw[Y]at hd;obtain⟨v,r,H,F,C⟩:=SU g4 n g5 hd;refine⟨v,r,H,F,?_⟩;rw[QC T N V];unfold run;rw[if_pos (by rw[g n,V1]),g2];exact C
    ·cases hd
   ·cases b
  ·cases b
 ·cases b
end
end
def B6:RV->Ih×D
 | .d x=>(.d,x)
 | .row r=>(.row r.k r.fl r.deep r.app r.fz,.list r.k r.fl r.es)
def Dc:A->SA×M D
 | .val a l=>(.val a (l.map λv=>(B6 v).1),l.map λv=>(B6 v).2)
 | .box l=>(.box (l.map λv=>(B6 v).1),l.map λv=>(B6 v).2)
def sj:M A->M SA×M D
 |[]=>([],[])
 |a::as=>((Dc a).1::(sj as).1,(Dc a).2++(sj as).2)
def NC(r:M A×M A):(M SA×M SA)×M D:=(((sj r.1).1,(sj r.2).1),(sj r.1).2++(sj r.2).2)
theorem U5(v:RV):Dm (B6 v).1 (B6 v).2=Z v:=by
 cases v with
 |d x=>rfl
 |row r=>simp[B6,Dm]
theorem G8:∀(l:M RV),nW (l.map λv=>(B6 v).1) (l.map λv=>(B6 v).2)=Z l
 |[]=>rfl
 |v::l=>by simp only[aZ,nW,U5,G8 l,aQ]
theorem UG(a:A):(Dc a).2.length=(Dc a).1.n:=by cases a<;>simp[Dc,SA.n]
theorem U1(a:A):nz (Dc a).1 (Dc a).2=Z a:=by cases a<;>simp only[Dc,nz,G8,aQ]
theorem Ap:∀(as:M A),iI (sj as).1 (sj as).2=Z as
 |[]=>rfl
 |a::as=>by
  simp only[sj];unfold iI;rw[List.take_left' (UG a),List.drop_left' (UG a),U1,Ap as];rfl
theorem U3(r:M A×M A):yL (NC r).1 (NC r).2=Z r:=by
 have h:(sj r.1).2.length=yE (sj r.1).1:=pP (Ap r.1);simp only[NC,yL,List.take_left' h,List.drop_left' h,Ap]
theorem UM{v:Ih}{x:D}{r:RV}(h:Dm v x=Z r):B6 r=(v,x):=by
 unfold Dm at h
 split at h
 ·cases h;rfl
 ·split at h
  ·rename_i a;obtain⟨rfl,rfl⟩:=a;cases h;rfl
  ·cases h
 ·cases h
theorem Al:∀{l:M Ih} {b:M D} {a:M RV},nW l b=Z a->(a.map λv=>(B6 v).1)=l/\(a.map λv=>(B6 v).2)=b
 |[],[],_,h=>by cases h;exact⟨rfl,rfl⟩
 |[],_::_,_,h=>by cases h
 |_::_,[],_,h=>by cases h
 |v::l,x::b,a,h=>by
  simp only[nW]at h
  split at h
  ·rename_i r c;obtain⟨g,f,rfl⟩:=aj.1 h;obtain⟨e,d⟩:=Al f;simp only[aZ,e,d,UM c];exact⟨trivial,trivial⟩
  ·cases h
theorem UK{a:SA}{e:M D}{r:A}(h:nz a e=Z r):Dc r=(a,e):=by
 cases a with
 |val g l=>
  simp only[nz]at h;obtain⟨f,d,rfl⟩:=aj.1 h;obtain⟨c,b⟩:=Al d;simp only[Dc,c,b]
 |box l=>
  simp only[nz]at h;obtain⟨f,d,rfl⟩:=aj.1 h;obtain⟨c,b⟩:=Al d;simp only[Dc,c,b]
theorem Ak:∀{l:M SA} {b:M D} {c:M A},iI l b=Z c->sj c=(l,b)
 |[],[],_,h=>by cases h;rfl
 |[],_::_,_,h=>by cases h
 |a::as,b,c,h=>by
  obtain⟨r,f,e,d,rfl⟩:=jf h;simp only[sj,UK e,Ak d,bD]
theorem UL{v:M SA×M SA}{a:M D}{r:M A×M A}(h:yL v a=Z r):NC r=(v,a):=by
 unfold yL at h
 split at h
 ·rename_i d outs c b;cases h;simp only[NC,Ak c,Ak b,bD]
 ·cases h
theorem Qf{a:Type}[DecidableEq a]{x:a}:∀{l:M a} {j:Nat},idxOf x l=Z j->nth l j=Z x
 |y::l,j,h=>by
  simp only[idxOf]at h
  split at h
  ·rename_i b;cases h;rw[b];rfl
  ·obtain⟨i,c,rfl⟩:=aj.1 h;exact (show nth l i=Z x from Qf c)
theorem bp{a:Type}:∀{l:M a} {i:Nat} {x:a},nth l i=Z x->x∈l
 |y::l,0,x,h=>by cases h;exact bQ
 |y::l,i+1,x,h=>bT _ (bp (l:=l) h)
theorem QP{a:Type}[DecidableEq a]{x:a}:∀{l:M a} {j:Nat},l.Nodup->nth l j=Z x->idxOf x l=Z j
 |y::l,0,b,h=>by cases h;simp[idxOf]
 |y::l,j+1,b,h=>by
  have c:y≠x:=λe=>(cx.1 b).1 (e▸bp (l:=l) h);simp only[idxOf,if_neg c,QP (cx.1 b).2 h,aQ]
noncomputable def GF(T:Nat->u KF)(c:M (Nat×nh)):Gf:=λi b=>
 match look c i with
 |some a=>match iI a.args b with
  |some as=>match ej T a.f as with
   |some r=>(idxOf (NC r).1 a.res).map (·,(NC r).2)
   |none=>O
  |none=>O
 |none=>O
theorem GA(T:Nat->u KF)(a:M (Nat×nh)):YK (ej T) a (GF T a):=by
 intro i l d g j k h;simp only[GF,d]at h
 split at h
 ·rename_i as e
  split at h
  ·rename_i r c;obtain⟨m,f,b⟩:=aj.1 h;simp only[aC]at b;obtain⟨rfl,rfl⟩:=b;exact⟨as,r,_,e,Qf f,U3 r,c⟩
  ·cases h
 ·cases h
theorem xw{T:Nat->u KF}{b:M (Nat×nh)}{i:Nat}{sg:nh}(e:look b i=Z sg){ws a:M D}{as:M A}{r:M A×M A}{v:M SA×M SA}{j:Nat}(h:iI sg.args ws=Z as)
  (d:ej T sg.f as=Z r) (c:yL v a=Z r) (g:idxOf v sg.res=Z j):GF T b i ws=Z (j,a):=by
 simp only[GF,e,h,d,UL c,g,aQ]
theorem ae2{T:Nat->u KF}{b:M (Nat×nh)}{i:Nat}{a:nh}{hint:M Nat}{c:KF}{t:ST}(m:look b i=Z a)(n:T a.f=Z c)(h:(a.args.length ==c.np && gh c.np 999 && decide a.res.Nodup)=I)
  (l:Xu hint b c a=Z t) {d e:M D} {as:M A} {j:Nat} (g:iI a.args d=Z as) (hd:eZ (GF T b) t 0 d=Z (j,e)):GF T b i d=Z (j,e):=by
 simp only[ai,beq_iff_eq,decide_eq_true_eq,nR]at h;obtain⟨⟨p,q⟩,o⟩:=h;obtain⟨v,r,q1,q2,k⟩:=aa4 (GA T b) n (by omega) p l g hd;exact xw m g k q2 (QP o q1)
structure j6 where
 lo:Int
 hi:Int
 deriving DecidableEq
structure hY where
 aq:Int
 ranges:List j6
 names:List ByteArray
 pattern:ByteArray
 path:ByteArray
 deriving DecidableEq
structure mA where
 ak:ByteArray
 bg:ByteArray
 deriving DecidableEq
structure yw where
 ak:ByteArray
 gM:List mA
 deriving DecidableEq
structure oH where
 root:Bool
 rj:Int
 steps:List yw
 deriving DecidableEq
structure dX where
 op:Int
 num:Int
 text:ByteArray
 path:oH
 ae:List dX
structure ah where
 aq:Int
 ak:ByteArray
 type:hY
 bk:List ByteArray
 unique:List ByteArray
 default:ByteArray
 given:Bool
 ft:Bool
 cZ:Bool
 fixed:Bool
 min:Int
 max:Int
 when:List dX
 jG:List dX
 ae:List ah
structure aE where
 ak:ByteArray
 bg:ByteArray
 ae:List aE
structure dB where
 op:Int
 text:ByteArray
 ae:List dB
def fo(s:z):M D:=[.str s]
def BB(b:Bool):M D:=[.bool b]
def j8(x:j6):M D:=[.int .i64 x.lo,.int .i64 x.hi]
abbrev bn(l:M z):D:=.list 1 I (l.map fo)
abbrev bI(l:M Bool):D:=.list 1 I (l.map BB)
abbrev gg(l:M j6):D:=.list 2 I (l.map j8)
def ez(x:hY):M D:=[.int .i64 x.aq,gg x.ranges,bn x.names,.str x.pattern,.str x.path]
def qf(x:mA):M D:=[.str x.ak,.str x.bg]
abbrev jM(l:M mA):D:=.list 2 I (l.map qf)
def lu(x:yw):M D:=[.str x.ak,jM x.gM]
abbrev fT(l:M yw):D:=.list 2 J (l.map lu)
def lP(x:oH):M D:=[.bool x.root,.int .i64 x.rj,fT x.steps]
theorem dX.Kt{x y:dX}(h:y∈x.ae):aw y < aw x:=by
 have a:=ba h;cases x;simp only[dX.mk.sizeOf_spec];dsimp only at a;omega
def cG(x:dX):M D:=[.int .i64 x.op,.int .i64 x.num,.str x.text,.bool x.path.root,.int .i64 x.path.rj,fT x.path.steps,.list 7 J (x.ae.map λy=>cG y)]
termination_by aw x
decreasing_by exact dX.Kt (by assumption)
abbrev ek(l:M dX):D:=.list 7 J (l.map cG)
theorem bN(x:dX):cG x=[.int .i64 x.op,.int .i64 x.num,.str x.text,.bool x.path.root,.int .i64 x.path.rj,fT x.path.steps,ek x.ae]:=by rw[cG]
theorem ah.Kt{x y:ah}(h:y∈x.ae):aw y < aw x:=by
 have a:=ba h;cases x;simp only[ah.mk.sizeOf_spec];dsimp only at a;omega
def ay(x:ah):M D:=[.int .i64 x.aq,.str x.ak,.int .i64 x.type.aq,gg x.type.ranges,bn x.type.names,.str x.type.pattern,.str x.type.path,bn x.bk,bn x.unique,.str x.default,.bool x.given,.bool x.ft,.bool x.cZ,.bool x.fixed,.int .i64 x.min,.int .i64 x.max,ek x.when,ek x.jG,.list 19 J (x.ae.map λy=>ay y)]
termination_by aw x
decreasing_by exact ah.Kt (by assumption)
abbrev aF(l:M ah):D:=.list 19 J (l.map ay)
theorem af(x:ah):ay x=[.int .i64 x.aq,.str x.ak,.int .i64 x.type.aq,gg x.type.ranges,bn x.type.names,.str x.type.pattern,.str x.type.path,bn x.bk,bn x.unique,.str x.default,.bool x.given,.bool x.ft,.bool x.cZ,.bool x.fixed,.int .i64 x.min,.int .i64 x.max,ek x.when,ek x.jG,aF x.ae]:=by rw[ay]
theorem aE.Kt{x y:aE}(h:y∈x.ae):aw y < aw x:=by
 have a:=ba h;cases x;simp only[aE.mk.sizeOf_spec];dsimp only at a;omega
def bl(x:aE):M D:=[.str x.ak,.str x.bg,.list 3 J (x.ae.map λy=>bl y)]
termination_by aw x
decreasing_by exact aE.Kt (by assumption)
abbrev aO(l:M aE):D:=.list 3 J (l.map bl)
theorem aV(x:aE):bl x=[.str x.ak,.str x.bg,aO x.ae]:=by rw[bl]
theorem dB.Kt{x y:dB}(h:y∈x.ae):aw y < aw x:=by
 have a:=ba h;cases x;simp only[dB.mk.sizeOf_spec];dsimp only at a;omega
def je(x:dB):M D:=[.int .i64 x.op,.str x.text,.list 3 J (x.ae.map λy=>je y)]
termination_by aw x
decreasing_by exact dB.Kt (by assumption)
abbrev cC(l:M dB):D:=.list 3 J (l.map je)
theorem aW(x:dB):je x=[.int .i64 x.op,.str x.text,cC x.ae]:=by rw[je]
theorem Rc{a:Type}(f:a->M D):∀{b:M a} {x:a},x∈b->fm (f x)<=qy (b.map f)
 |[],_,h=>by simp at h
 |y::ys,x,h=>by
  simp -implicitDefEqProofs only [aZ,qy]
  rcases aI.1 h with rfl|h
  ·omega
  ·have:=Rc f h;omega
abbrev bW{a:Type}(f:a->M D)(l:M a):Nat:=l.length+qy (l.map f)
theorem dV{b:Type}(f:b->M D){l:M b}{x:b}(h:x∈l):fm (f x) < bW f l:=by
 have d:=Rc f h;have c:0 < l.length:=by cases l with|nil=>cases h|cons a l=>simp
 simp only[bW];omega
theorem eS{a:Type}(f:a->M D)(x:a)(l:M a):bW f (x::l)=fm (f x)+bW f l+1:=by
 simp only[bW,aG,aZ,qy];omega
theorem zO{a:Type}(f:a->M D)(l m:M a):bW f (l++m)=bW f l+bW f m:=by
 simp only[bW,a_,cp,Fy];omega
theorem FB{a:Type}(f:a->M D)(l:M a)(i:Nat):bW f (l.take i)<=bW f l:=by
 have:=zO f (l.take i) (l.drop i);rw[bD]at this;omega
theorem Rd(l:M z){s:z}(h:s∈l):s.size < bW fo l:=by
 have:=dV fo h;simp only[fo,fm,D.sz]at this;omega
theorem sO(x:hY):fm (ez x)=bW j8 x.ranges+bW fo x.names+x.pattern.size+x.path.size:=by
 simp only[ez,fm,D.sz,aA,bW];omega
theorem MK(x:mA):fm (qf x)=x.ak.size+x.bg.size:=by simp only[qf,fm,D.sz];omega
theorem zN(x:yw):fm (lu x)=x.ak.size+bW qf x.gM:=by simp only[lu,fm,D.sz,aA,bW];omega
theorem Fx(x:oH):fm (lP x)=bW lu x.steps:=by simp only[lP,fm,D.sz,aA,bW];omega
theorem qx(x:dX):fm (cG x)=x.text.size+fm (lP x.path)+bW cG x.ae:=by simp only[bN,lP,fm,D.sz,aA,bW];omega
theorem eR(x:ah):fm (ay x)=x.ak.size+fm (ez x.type)+bW fo x.bk+bW fo x.unique+x.default.size+bW cG x.when+bW cG x.jG+bW ay x.ae:=by
 simp only[af,ez,fm,D.sz,aA,bW];omega
theorem ij(x:aE):fm (bl x)=x.ak.size+x.bg.size+bW bl x.ae:=by simp only[aV,fm,D.sz,aA,bW];omega
section
def Ah(i:Nat):Nat->Nat->M SE
 |_,0=>[]
 |j,n+1=>.c i j::Ah i (j+1) n
abbrev Y(i:Nat):SE:=.v i
abbrev N(n:Int):SE:=.k (.int .i64 n)
abbrev U(n:Int):SE:=.k (.int .u8 n)
abbrev B(b:Bool):SE:=.k (.bool b)
abbrev L(k:Nat)(a:Bool):SE:=.k (.nil k a)
abbrev X(i j:Nat):SE:=.c i j
abbrev o_(o:PO)(es:M SE)(t:ST):ST:=.op [] o es t
abbrev p_(a:Gs)(t:ST):ST:=.op a .pl [] t
abbrev c1(t:ST):ST:=.cons t .nil
abbrev r_(i n:Nat):M SE:=FG i n
abbrev t_(i:Nat)(o:PO)(es:M SE)(t:ST):ST:=.op [(.v i,I)] o es t
abbrev f_(i:Nat)(o:PO)(es:M SE)(t:ST):ST:=.op [(.v i,J)] o es t
abbrev d_(i:Nat)(a b:ST):ST:=.gd [(.v i,I)] a b
abbrev e_(i:Nat)(a b:ST):ST:=.gd [(.v i,J)] a b
abbrev L_(es:M SE):ST:=.leaf 0 es
abbrev M1(t:ST):ST:=.map [1] t
abbrev b_(a b:ST):ST:=.seq a (.cons b .nil)
abbrev k_(a b:ST):ST:=.cons a b
abbrev h_(a b:ST):ST:=.seq a b
abbrev an_(i j:Nat)(t:ST):ST:=.op [] .ite [.v i,.v j,.k (.bool J)] t
abbrev WW(i j:Nat)(t:ST):ST:=.op [] .ite [.v i,.k (.bool I),.v j] t
abbrev pt_(i:Nat)(t:ST):ST:=.op [(.v i,I)] .pl [] t
abbrev TW(i:Nat)(t:ST):ST:=.op [(.v i,J)] .pl [] t
abbrev z_(t:ST):ST:=.seq t (.cons (.leaf 0 [.v 0]) .nil)
abbrev c_(i:Nat)(es:M SE)(t:ST):ST:=.call i es (.cons t .nil)
abbrev YF(i j n:Nat):M SE:=Ah i j n
abbrev E2:PO:=.bin .eql
abbrev N2:PO:=.bin .neq
abbrev L2:PO:=.bin .lss
abbrev G2:PO:=.bin .gtr
abbrev H2:PO:=.bin .geq
abbrev A2:PO:=.bin .add
abbrev S2:PO:=.bin .sub
abbrev zI(n:Int):SK:=.int .i64 n
abbrev zB(b:Bool):SK:=.bool b
abbrev zS(l:M UInt8):SK:=.str ⟨l.toArray⟩
abbrev zL(k:Nat)(a:Bool):SK:=.nil k a
abbrev R:=u (Nat×M D)
noncomputable def opT(r:u D)(G:Gf)(t:ST)(a:M D):R:=match r with
 |some x=>eZ G t 0 (a++[x])
 |none=>O
def poT(o:PO):u (M D)->u D
 |some a=>aU o a
 |none=>O
noncomputable def WS(g:u Bool)(G:Gf)(o:PO)(es:M SE)(t:ST)(a:M D):R:=match g with
 |some I=>opT (poT o (jc a es)) G t a
 |some J=>eZ G t 0 (a++[.bool J])
 |none=>O
noncomputable def TL(g:u Bool)(G:Gf)(a b:ST)(c:M D):R:=match g with
 |some I=>eZ G a 0 c
 |some J=>eZ G b 0 c
 |none=>O
noncomputable def clR(r:R)(G:Gf)(b:ST)(a:M D):R:=match r with
 |some (j,ws)=>eZ G b j (a++ws)
 |none=>O
noncomputable def clT(r:u (M D))(G:Gf)(i:Nat)(c:ST)(a:M D):R:=match r with
 |some b=>clR (G i b) G c a
 |none=>O
def lfT(j:Nat):u (M D)->R
 |some a=>Z (j,a)
 |none=>O
def mpT(f:M Nat):R->R
 |some (j,σ)=>(nth f j).map (·,σ)
 |none=>O
noncomputable def sqT(r:R)(G:Gf)(a:ST):R:=match r with
 |some (j,σ)=>eZ G a j σ
 |none=>O
noncomputable def lB(G:Gf)(a:ST)(p:Nat×M D):u (Sg (Nat×M D) (Nat×M D)):=DF (eZ G a p.1 p.2)
noncomputable def lpT(r:u (M D))(G:Gf)(h:Nat)(b:ST):R:=match r with
 |some a=>cl (lB G b) (h,a)
 |none=>O
def gsT(w:Bool):u D->u Bool->u Bool
 |some (.bool b),Z c=>Z (if b=w then c else J)
 |_,_=>O
def elT(j:Nat):u D->u D
 |some x=>match elC x with
  |some a=>nth a j
  |none=>O
 |none=>O
def csT:u D->u (M D)->u (M D)
 |some x,Z xs=>Z (x::xs)
 |_,_=>O
section
variable (G:Gf) (ρ:M D)
theorem afz(o:PO)(es:M SE)(t:ST)(j:Nat):eZ G (.op [] o es t) j ρ=opT (poT o (jc ρ es)) G t ρ:=by
 simp only[eZ,jt,opT,poT];cases jc ρ es<;>rfl
theorem afy(p:SE×Bool)(a:Gs)(o:PO)(es:M SE)(t:ST)(j:Nat):eZ G (.op (p::a) o es t) j ρ=WS (jt ρ (p::a)) G o es t ρ:=by
 simp only[eZ,WS,opT,poT];generalize jt ρ (p::a)=g;rcases g with _|_|_
 ·rfl
 ·rfl
 ·cases jc ρ es<;>rfl
theorem afu(c:Gs)(a b:ST)(j:Nat):eZ G (.gd c a b) j ρ=TL (jt ρ c) G a b ρ:=(rfl)
theorem afr(i:Nat)(es:M SE)(a:ST)(j:Nat):eZ G (.call i es a) j ρ=clT (jc ρ es) G i a ρ:=(rfl)
theorem afv(j:Nat)(es:M SE)(k:Nat):eZ G (.leaf j es) k ρ=lfT j (jc ρ es):=(rfl)
theorem afx(f:M Nat)(t:ST)(k:Nat):eZ G (.map f t) k ρ=mpT f (eZ G t 0 ρ):=(rfl)
theorem afA(t a:ST)(k:Nat):eZ G (.seq t a) k ρ=sqT (eZ G t 0 ρ) G a:=(rfl)
theorem afw(h:Nat)(es:M SE)(a:ST)(k:Nat):eZ G (.loop h es a) k ρ=lpT (jc ρ es) G h a:=(rfl)
theorem afp(a b:ST)(k:Nat):eZ G (.both a b) k ρ=GI (eZ G a 0 ρ) (eZ G b 0 ρ):=(rfl)
theorem afq(a b:ST):eZ G (.cons a b) 0 ρ=eZ G a 0 ρ:=(rfl)
theorem afs(a b:ST)(j:Nat):eZ G (.cons a b) (j+1) ρ=eZ G b j ρ:=(rfl)
theorem aho(x:D)(t:ST):opT (Z x) G t ρ=eZ G t 0 (ρ++[x]):=(rfl)
theorem ahE(o:PO)(a:M D):poT o (Z a)=aU o a:=(rfl)
theorem aha(o:PO)(es:M SE)(t:ST):WS (Z I) G o es t ρ=opT (poT o (jc ρ es)) G t ρ:=(rfl)
theorem ag_(o:PO)(es:M SE)(t:ST):WS (Z J) G o es t ρ=eZ G t 0 (ρ++[.bool J]):=(rfl)
theorem afP(a b:ST):TL (Z I) G a b ρ=eZ G a 0 ρ:=(rfl)
theorem afO(a b:ST):TL (Z J) G a b ρ=eZ G b 0 ρ:=(rfl)
theorem afj(a:M D)(i:Nat)(b:ST):clT (Z a) G i b ρ=clR (G i a) G b ρ:=(rfl)
theorem afi(j:Nat)(a:M D)(b:ST):clR (Z (j,a)) G b ρ=eZ G b j (ρ++a):=(rfl)
theorem agN(j:Nat)(a:M D):lfT j (Z a)=Z (j,a):=(rfl)
theorem agX(f:M Nat)(j:Nat)(a:M D):mpT f (Z (j,a))=(nth f j).map (·,a):=(rfl)
theorem aip(j:Nat)(a:M D)(b:ST):sqT (Z (j,a)) G b=eZ G b j a:=(rfl)
theorem agQ(a:M D)(h:Nat)(b:ST):lpT (Z a) G h b=cl (lB G b) (h,a):=(rfl)
theorem d_v(i:Nat):SE.d ρ (.v i)=nth ρ i:=(rfl)
theorem d_k(x:SK):SE.d ρ (.k x)=Z x.d:=(rfl)
theorem d_c(i j:Nat):SE.d ρ (.c i j)=elT j (nth ρ i):=by
 simp only[SE.d,elT];cases nth ρ i<;>rfl
theorem abz(j k:Nat)(b:Bool)(a:M D):elT j (Z (.list k b [a]))=nth a j:=(rfl)
theorem abx:jc ρ []=Z []:=(rfl)
theorem UW(e:SE)(es:M SE):jc ρ (e::es)=csT (e.d ρ) (jc ρ es):=by
 simp only[jc];cases e.d ρ with
 |none=>rfl
 |some x=>cases jc ρ es<;>rfl
theorem afm(x:D)(a:M D):csT (Z x) (Z a)=Z (x::a):=(rfl)
theorem bK(b:ST)(h:Nat)(a:M D):lB G b (h,a)=DF (eZ G b h a):=(rfl)
theorem gO(j:Nat)(a:M D):DF (Z (j,a))=Z (if j % 2=0 then .go (j / 2,a) else .out (j / 2,a)):=(rfl)
end
theorem BR(op:BinOp)(k:IntKind)(a b:Int):aU (.bin op) [.int k a,.int k b]=Ut op k a b:=by
 simp only[aU,Rx,if_true];cases Ut op k a b<;>rfl
theorem WZ(op:BinOp)(a b:z):aU (.bin op) [.str a,.str b]=Uu op a b:=by
 simp only[aU,Rx];cases Uu op a b<;>rfl
theorem ahF(op:BinOp)(a b:Bool):aU (.TI op) [.bool a,.bool b]=Us op a b:=(rfl)
theorem adu(b:Bool):aU .not [.bool b]=Z (.bool (!b)):=(rfl)
theorem aaA(k b:IntKind)(a:Int):aU (.conv k) [.int b a]=Z (.int k (k.wrap a)):=(rfl)
theorem adt(k:IntKind)(a:Int):aU .neg [.int k a]=Z (.int k (k.wrap (-a))):=(rfl)
theorem adr(k:Nat)(a:Bool)(es:M (M D)):aU .len [.list k a es]=Z (.int .i64 es.length):=(rfl)
theorem adx(t:z):aU .sln [.str t]=Z (.int .i64 t.size):=(rfl)
theorem aaD(b y:Bool):aU .ite [.bool b,.bool I,.bool y]=Z (.bool (b ||y)):=by cases b<;>rfl
theorem aaC(b y:Bool):aU .ite [.bool b,.bool y,.bool J]=Z (.bool (b && y)):=by cases b<;>rfl
theorem ado(o k:Nat)(b:Bool)(a:M D):aU (.cel o) [.list k b [a]]=nth a o:=(rfl)
theorem ya(n k:Nat)(b:Bool)(a:M D):aU (.has n) [.list k b [a]]=if n<=a.length then Z (.bool J) else O:=(rfl)
theorem ahG(k:Nat)(a:Bool)(es:M (M D))(n:Int)(h:0<=n):aU (.el k) [.list k a es,.int .i64 n]=(nth es n.toNat).map λe=>.list 0 J [e]:=by simp only[aU,h,and_self,if_true]
theorem rR(k:Nat)(a:Bool)(es:M (M D))(n:Nat):aU (.el k) [.list k a es,.int .i64 (n:Int)]=(nth es n).map λe=>.list 0 J [e]:=by
 rw[ahG k a es n (by omega),cd]
theorem adp(k:Nat)(a:Bool)(es:M (M D)):aU (.el k) [.list k a es,.int .i64 0]=(nth es 0).map λe=>.list 0 J [e]:=rR k a es 0
theorem lZ(k:Nat)(a:Bool)(es:M (M D))(n:Nat)(h:n < es.length):aU .TJ [.list k a es,.int .i64 (n:Int)]=Z (.bool J):=by
 simp only[aU,cd];rw[if_pos ⟨by omega,h⟩]
theorem fF(t:z)(n:Nat)(h:n < t.size):aU .Xp [.str t,.int .i64 (n:Int)]=Z (.int .u8 (eA t n)):=by
 simp only[aU,cd];rw[if_pos ⟨by omega,h⟩]
theorem adw:aU .pl []=Z (.bool J):=(rfl)
theorem OC(k a:Nat)(c:Bool)(es b:M (M D))(h:(es.length+b.length) * a<=room/\es.length+b.length<=maxLen):aU (.app k a) [.list k c es,.list k c b]=Z (.list k c (es++b)):=by
 simp only[aU,h.1,h.2,and_self,if_true]
theorem ads(a b:Int):aU .max [.int .i64 a,.int .i64 b]=Z (.int .i64 (if a < b then b else a)):=(rfl)
theorem wI(k:Nat)(a:Bool):aU (.wB k a) []=Z (.list k a []):=by
 simp only[aU,aP,Nat.zero_mod,if_true,Nat.zero_div,chunk];simp
theorem aev(k:IntKind)(n:Int):SK.d (.int k n)=.int k n:=(rfl)
theorem aaZ(b:Bool):SK.d (.bool b)=.bool b:=(rfl)
theorem aex(t:z):SK.d (.str t)=.str t:=(rfl)
theorem aew(k:Nat)(a:Bool):SK.d (.nil k a)=.list k a []:=(rfl)
theorem afR(a:M D)(e:SE)(w:Bool)(b:Gs)(c:Bool)(f:jt a b=Z c):jt a ((e,w)::b)=gsT w (e.d a) (Z c):=by
 simp only[jt];cases e.d a with
 |none=>rfl
 |some x=>cases x<;>simp only[gsT,f]<;>split<;>rfl
theorem acp(a:M D)(e:SE)(w:Bool):jt a [(e,w)]=gsT w (e.d a) (Z I):=afR a e w [] I rfl
theorem afT(b:Bool):gsT I (Z (.bool b)) (Z I)=Z b:=by cases b<;>rfl
theorem afS(b:Bool):gsT J (Z (.bool b)) (Z I)=Z (!b):=by cases b<;>rfl
attribute [go_sem] BR WZ ahF adu aaA adt adr adx aaD aaC ado ya rR adp adw ads wI aev aaZ aex aew acp afT afS
attribute [go_sem] afz afy afu afr afv afx afA afw afp afq afs aho ahE aha ag_ afP afO afj afi agN agX aip agQ d_v d_k d_c abz abx UW afm Nt
attribute [go_sem] Ah
attribute [go_sem] bM Nat.reduceMod Nat.reduceDiv aN reduceIte Int.reduceEq dG dF Int.reduceAdd Int.reduceSub Int.reduceNeg
end
end Go.Proofs.YtgfcijiikgjbcaaGreatDoor
