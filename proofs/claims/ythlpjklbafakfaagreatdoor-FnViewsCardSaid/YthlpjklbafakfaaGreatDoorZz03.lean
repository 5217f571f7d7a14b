/- Part of the proof: a machine over plain data, its proof, the functions of the program run on symbols, what they answer. Condition: none. -/
import Derived.Attr
import Derived.Test.YthlpjklbafakfaaGreatDoorZz02
set_option linter.unusedVariables false
set_option linter.unusedSimpArgs false
open Bool renaming and_eq_true->af,false_eq_true->aC,not_eq_true'->bY,false_and->cI,true_and->cJ,false_ne_true->cS,or_eq_true->dr,not_false->dZ,and_true->ed,eq_false_iff->eg,or_false->ew,not_true->eP,false_or->fh,or_true->ft,and_false->fO,and_assoc->gR,true_or->ir,and_self->kv,true->I,false->J
open Int renaming toNat_natCast->cq,reduceLE->du,reduceLT->dv
open List renaming length_map->aj,cons_append->aq,nil_append->ay,length_cons->aE,length_nil->aJ,mem_cons->aP,append_nil->aQ,length_append->aR,mem_append->aS,mem_cons_self->aU,map_cons->aW,sizeOf_lt_of_mem->aX,all_eq_true->bg,take_append_drop->bh,length_take->bj,mem_cons_of_mem->bk,getElem?_eq_some_iff->bm,append_assoc->bE,mem_singleton->bI,all_cons->bJ,map_append->bR,length_drop->bT,range->bW,nodup_cons->cl,map_nil->cE,drop_zero->cK,take_zero->dw,drop_length->fC,take_succ_cons->fE,any_eq_true->kN,take_left->nX,drop_left->xX,drop_succ_cons->zG
open Nat renaming le_refl->au,le_trans->aL,zero_add->bD,reduceEqDiff->bP,zero_le->cB,reduceAdd->cL,add_assoc->cV,add_zero->eu,blt->gf,ble->gV,le_of_ble_eq_true->ib,blt_eq->oU,ble_eq_true_of_le->w_
open Option renaming map_eq_some_iff->ak,map_some->aH,isSome_iff_exists->cn,isSome_some->cZ,getD_none->dz,getD_some->dB,bind_some->dS,some->Z,none->O
open Option.some renaming injEq->aa,inj->iE
open Prod.mk renaming injEq->aA
open SizeOf renaming sizeOf->av
open Decidable renaming decide->Z'
namespace Go.Proofs.YthlpjklbafakfaaGreatDoor
section
section
variable {cf:Cf} {mf:Mf}
@[go_sem] theorem akh (g:St->u (Ex×St)) (s:St):JD g (Z (.norm,s))=g s:=rfl
@[go_sem] theorem aie (a:n_) (s:St):nrm a (Z s)=Z (.norm,s.eB a):=rfl
def NH(a:M KR)(args:M A)(s:St):u (M A×M A):=
 match wX s a,vi s 0 args with
 |some (rs,l),Z (outs,b)=>if kM (l++b) then Z (rs,outs) else O
 |_,_=>xE a args s
def ac2(a:M KR)(args:M A):u (Ex×St)->u (M A×M A)
 |some (.norm,s)=>NH a args s
 |some (.ret,s)=>NH a args s
 |_=>O
theorem AW{T:Nat->u KF}{f b:Nat}{body:K}{a:M KR}(e:T f=Z ⟨b,body,a⟩){args:M A}(c:(args.length ==b && gf b 999)=I) :
  fP T f args=ac2 a args (ev T ya body (lS 0 args ⟨[],[],[]⟩)):=by
 rw[af,beq_iff_eq,oU]at c;have d:=c.1;rw[P0 T e (by simp only;omega)];simp only[run,d,if_true];generalize ev T ya body (lS 0 args ⟨[],[],[]⟩)=x;rcases x with _|⟨_|_|_,s⟩<;>rfl
theorem P5{T:Nat->u KF}{body:K}(st:Nat->St){n:Nat}{e:Ex}{s:St}(b:e≠.norm)(a:ev T mf body (st n)=Z (e,s))(c:∀i,i < n->ev T mf body (st i)=Z (.norm,st (i+1))) :
  ∀m i,i+m=n->ev T mf (.loop body) (st i)=Z (e,s)
 |0,i,h=>by
  rw[jh,show i=n by omega,a];cases e with
  |norm=>exact absurd rfl b
  |exit j=>rfl
  |ret=>rfl
 |m+1,i,h=>by
  rw[jh,c i (by omega)];exact P5 st b a c m (i+1) (by omega)
theorem ahX{T:Nat->u KF}{body:K}(st:Nat->St)(n:Nat){e:Ex}{s:St}(b:e≠.norm)(a:ev T mf body (st n)=Z (e,s))(c:∀i,i < n->ev T mf body (st i)=Z (.norm,st (i+1))):ev T mf (.loop body) (st 0)=Z (e,s):=
 P5 st b a c n 0 (by omega)
@[go_sem] theorem afG (c:Bool) (a:M RV):A.short (.val c a)=Z' (a.length<=30):=by
 simp only[A.short];by_cases h:a.length<=30
 ·simp only[h,decide_true];exact w_ h
 ·simp only[h,decide_false];cases b:gV a.length 30 with
  |false=>rfl
  |true=>exact absurd (ib b) h
@[go_sem] theorem afE (s:St):mQ cf mf [] s=Z s:=rfl
@[go_sem] theorem acY (i:KI) (a:M KI) (s:St):mQ cf mf (i::a) s=(vG cf mf s i).bind (mQ cf mf a):=by
 simp only[mQ];cases vG cf mf s i<;>rfl
@[go_sem] theorem agD (s:St) (d:u Nat) (o:KO):vG cf mf s ⟨d,o,O⟩=Cq cf mf s d o:=rfl
def gdn(cf:Cf)(mf:Mf)(s:St)(d:u Nat)(o:KO)(w:Bool):C->u St
 | .d (.bool b)=>if b=w then Cq cf mf s d o else Z (s.put d .ug)
 | .ug=>Z (s.put d .ug)
 |_=>O
@[go_sem] theorem agE (s:St) (d:u Nat) (o:KO) (g:Nat) (w:Bool):vG cf mf s ⟨d,o,Z (g,w)⟩=gdn cf mf s d o w (s.get g):=by
 simp only[vG,gdn];cases s.get g<;>rfl
def rsl(s:St)(d:u Nat)(a:M C):u (M A×M A)->u St
 |none=>O
 |some (rs,outs)=>if rs.all A.short then
   let g:=if rs.all A.closed && outs.all A.closed then s else eE s (ji a)
   let f:=fW (fY g (dR s a)) (cO a)
   let e:=l_ f a outs
   let (l,b):=il (d.getD 0) 0 rs e
   Z (b.put d (match l with|[c]=>c|l=>.rf l))
   else O
def acW(cf:Cf)(s:St)(d:u Nat)(f:Nat)(a:M C):u (M A)->u St
 |some as=>if kM (dR s a) && kM (cO a) && (dR s a).all (λr=>!(ji a).contains r) then rsl s d a (cf f as) else O
 |none=>O
@[go_sem] theorem afD (s:St) (d:u Nat) (f:Nat) (a:M C):xl cf s d f a=acW cf s d f a (vu s a):=by
 simp only[xl,acW];cases vu s a with
 |none=>rfl
 |some as=>
  dsimp only;split
  ·cases cf f as with
   |none=>rfl
   |some r=>rfl
  ·rfl
end
theorem alO{a:Type}(x:a)(l:M a):nth (x::l) 0=Z x:=rfl
theorem alQ{a:Type}(x:a)(l:M a)(i:Nat):nth (x::l) (i+1)=nth l i:=rfl
theorem alP{a:Type}(i:Nat):nth ([]:M a) i=O:=by cases i<;>rfl
attribute [go_sem] U_ Im K1 U8 U7 U9 Pe Pf K2 U6
attribute [go_sem] oZ NH xE A.isVal wX Ez vi S7
attribute [go_sem] sa Cq jm ky fX KO.pU KO.Nx qw eY p7 kt
attribute [go_sem] St.get St.put St.gk St.setRow St.cQ St.jQ St.newRow St.kill St.eB iV look ru PS PQ um alO alQ alP
attribute [go_sem] C.iF C.A8 Xm Xl St.iF lk GZ C.kill C.jD C.cells C.const C.cell C.isAgg Fk BY cD D.plain Re Xz Rf Ul Kf mJ jT gJ Oz vu rowsOf qy dR ji cO RV.closed A.closed Row.share eE er l_ il kM fY mi fW Br tG Ce kD uE qo Ah lS m_
attribute [go_sem] aE aJ aW cE bJ List.all_nil List.filter_cons List.filter_nil aQ ay aq fE dw zG cK List.drop_nil List.take_nil List.contains_cons List.contains_nil List.headD_cons
attribute [go_sem] aH Option.map_none dB dz cZ Option.toList_some dS
attribute [go_sem] Option.some_beq_some Option.none_beq_some
attribute [go_sem] if_true if_false ed cJ fO cI eP dZ ft ir ew fh and_true true_and and_false false_and
attribute [go_sem] bD eu aC ite_true ite_false decide_true decide_false cq Bool.true_eq_false beq_self_eq_true bne_self_eq_false imp_self false_imp_iff true_imp_iff
theorem wi{i n:Nat}(h:i < n)(a:n<=maxLen):IntKind.i64.wrap ((i:Int)+1)=((i+1:Nat):Int):=by
 rw[ij (by simp[maxLen]at a;omega)];omega
theorem gX.drop{B:Nat}:∀(o:Nat) (a:M Ty) (b:M D),gX B a b->gX B (a.drop o) (b.drop o)
 |0,_,_,h=>by simpa using h
 |o+1,[],[],h=>by simpa using h
 |o+1,t::a,d::b,h=>by simp only[gX]at h;simpa using gX.drop o a b h.2
 |_,[],_::_,h|_,_::_,[],h=>by simp only[gX]at h
theorem gX.take{B:Nat}:∀(o:Nat) (a:M Ty) (b:M D),gX B a b->gX B (a.take o) (b.take o)
 |0,_,_,_=>by simp[gX]
 |o+1,[],[],h=>by simpa using h
 |o+1,t::a,d::b,h=>by simp only[gX]at h;simp only[fE,gX];exact⟨h.1,gX.take o a b h.2⟩
 |_,[],_::_,h|_,_::_,[],h=>by simp only[gX]at h
theorem gX.sub{B:Nat}(o m:Nat){a:M Ty}{b:M D}(h:gX B a b):gX B ((a.drop o).take m) ((b.drop o).take m):=gX.take m _ _ (gX.drop o _ _ h)
theorem ig{a:Type}:∀(es:M a) (i:Nat) (e:a),nth es i=Z e->es.drop i=e::es.drop (i+1)
 |[],_,_,h=>by simp[nth]at h
 |x::es,0,e,h=>by simp only[nth,aa]at h;simp[h]
 |x::es,i+1,e,h=>by simp only[nth]at h;simp[ig es i e h]
end
section
section
variable {T:Nat->u KF} {cf:Cf} {mf:Mf}
noncomputable def cnd(T:Nat->u KF)(mf:Mf)(c:C)(a b:K)(s:St):u (Ex×St):=ife c (ev T mf a s) (ev T mf b s)
theorem ac0(c:KX)(a b:K)(s:St):ev T mf (.cond c a b) s=cnd T mf (fX s c) a b s:=Im T mf c a b s
end
attribute [go_sem 2000] ac0
attribute [go_sem] Nat.max_def ite_self
theorem bF{a:Type}{l:M a}{i:Nat}{x:a}(h:nth l i=Z x):i < l.length:=by rw[fU]at h;exact (bm.1 h).1
inductive Sg (σ ρ:Type) where
 |go (s:σ)
 |out (r:ρ)
def iI{c a b:Type}(step:Nat->a->c->Sg a b):Nat->a->M c->Sg a b
 |_,s,[]=>.go s
 |i,s,e::es=>match step i s e with
  | .go d=>iI step (i+1) d es
  | .out r=>.out r
def sgR{a b:Type}(st:a->St)(c:b->Ex×St):Sg a b->u (Ex×St)
 | .go s=>Z (.norm,st s)
 | .out r=>Z (c r)
def sgE{a c:Type}(b:Nat)(fin:a->St)(d:c->Ex×St):Sg a c->u (Ex×St)
 | .go s=>Z (.exit b,fin s)
 | .out r=>Z (d r)
theorem abn{g:St->u (Ex×St)}{r:Ex×St}(h:r.1≠.norm):JD g (Z r)=Z r:=by
 obtain⟨e,s⟩:=r;cases e with
 |norm=>exact absurd rfl h
 |exit i=>rfl
 |ret=>rfl
theorem SU{T:Nat->u KF}{g:Mf}{body:K}{n c k:Type}{es:M n}{b:Nat}(step:Nat->c->n->Sg c k)(a:Nat->c->Prop)(st:Nat->c->St)(fin:c->St)(f:k->Ex×St)
  (o:∀r,(f r).1≠.norm)
  (p:∀i e s,nth es i=Z e->a i s->ev T g body (st i s)=sgR (st (i+1)) f (step i s e)/\∀d,step i s e=.go d->a (i+1) d)
  (q:∀s,a es.length s->ev T g body (st es.length s)=Z (.exit b,fin s)) :
  ∀m i s,i+m=es.length->a i s->ev T g (.loop body) (st i s)=sgE b fin f (iI step i s (es.drop i))
 |0,i,s,h,j=>by
  obtain rfl:i=es.length:=by omega
  rw[jh,q s j,fC];rfl
 |m+1,i,s,h,j=>by
  have a1:=dV (l:=es) (i:=i) (by omega);obtain⟨w,v⟩:=p i _ s a1 j;rw[ig es i _ a1,jh,w];simp only[iI];cases t:step i s es[i]with
  |go d=>
   simp only[sgR,JD];exact SU step a st fin f o p q m (i+1) d (by omega) (v d t)
  |out r=>
   simp only[sgR,sgE];exact abn (o r)
def allI{a:Type}(p:Nat->a->Bool):Nat->M a->Bool
 |_,[]=>I
 |i,e::es=>p i e && allI p (i+1) es
theorem uy{a:Type}(p:a->Bool):∀(i:Nat) (es:M a),allI (λ_=>p) i es=es.all p
 |_,[]=>rfl
 |i,e::es=>by simp[allI,uy p (i+1) es]
theorem LB{T:Nat->u KF}{c:Mf}{body:K}{d:Type}{es:M d}{b:Nat}(p:Nat->d->Bool)(st:Nat->St)(fin r:St)
  (f:∀i e,nth es i=Z e->ev T c body (st i)=if p i e=I then Z (.norm,st (i+1)) else Z (.ret,r))
  (g:ev T c body (st es.length)=Z (.exit b,fin)) :
  ∀m i,i+m=es.length->ev T c (.loop body) (st i)=if allI p i (es.drop i)=I then Z (.exit b,fin) else Z (.ret,r)
 |0,i,h=>by
  obtain rfl:i=es.length:=by omega
  rw[jh,g,fC];rfl
 |m+1,i,h=>by
  have a1:=dV (l:=es) (i:=i) (by omega);have j:allI p i (es.drop i)=(p i (es[i]'(by omega)) && allI p (i+1) (es.drop (i+1))):=by rw[ig es i _ a1];rfl
  rw[jh,f i _ a1,j];by_cases a:p i (es[i]'(by omega))=I
  ·rw[if_pos a,a,cJ];exact LB p st fin r f g m (i+1) (by omega)
  ·rw[if_neg a,eg.2 a,cI,if_neg cS];rfl
theorem afF{T:Nat->u KF}{a:Mf}{body:K}{c:Type}{es:M c}{b:Nat}(p:c->Bool)(st:Nat->St)(fin r:St)
  (d:∀i e,nth es i=Z e->ev T a body (st i)=if p e=I then Z (.norm,st (i+1)) else Z (.ret,r))
  (f:ev T a body (st es.length)=Z (.exit b,fin)):ev T a (.loop body) (st 0)=if es.all p=I then Z (.exit b,fin) else Z (.ret,r):=by
 have h:=LB (λ_=>p) st fin r d f es.length 0 (by omega);rw[cK,uy]at h;exact h
def nZ{a:Type}(p:a->Bool):M a->Nat->u Nat
 |[],_=>O
 |e::es,k=>if p e then Z k else nZ p es (k+1)
def anE(b:Nat)(fin:St)(r:Nat->St):u Nat->u (Ex×St)
 |none=>Z (.exit b,fin)
 |some i=>Z (.ret,r i)
theorem yX{a β:Type}{f:a->β}{es:M a}{i:Nat}{e:a}(h:nth es i=Z e):(es.take (i+1)).map f=(es.take i).map f++[f e]:=by
 rw[cx es i e h];simp
theorem Pp{a:Type}{p:a->Bool}:∀{es:M a} {k j:Nat},nZ p es k=Z j->∃e,k<=j/\nth es (j - k)=Z e/\p e=I
 |[],k,j,h=>by simp[nZ]at h
 |e::es,k,j,h=>by
  simp only[nZ]at h
  split at h
  ·rename_i b;obtain rfl:=iE h;exact⟨e,au _,by simp[nth],b⟩
  ·obtain⟨x,f,d,c⟩:=Pp h;refine⟨x,by omega,?_,c⟩;rw[show j - k=(j - (k+1))+1 by omega];exact d
theorem dy{a:Type}{p:a->Bool}{es:M a}{j:Nat}(h:nZ p es 0=Z j):∃e,nth es j=Z e/\p e=I:=by
 obtain⟨e,_,c,b⟩:=Pp h;exact⟨e,by simpa using c,b⟩
def jG:u Nat->Int
 |none=>-1
 |some j=>(j:Int)
inductive zR {σ ρ:Type} (b:σ->Option (Sg σ ρ)):σ->ρ->Prop
 |out {s:σ} {r:ρ} (h:b s=some (.out r)):zR b s r
 |go {s s':σ} {r:ρ} (h:b s=some (.go s')) (h':zR b s' r):zR b s r
open Classical in
noncomputable def bK{a c:Type}(b:a->u (Sg a c))(s:a):u c:=if h:∃r,zR b s r then Z h.choose else O
theorem Nf{a c:Type}{b:a->u (Sg a c)}{s:a}{r:c}(h:bK b s=Z r):zR b s r:=by
 unfold bK at h
 split at h
 ·rename_i d;rw[<- iE h];exact d.choose_spec
 ·cases h
theorem zR.x_{a c:Type}{b:a->u (Sg a c)}{s:a}{r d:c}(h:zR b s r)(e:zR b s d):r=d:=by
 induction h with
 |out h=>
  cases e with
  |out g=>rw[h]at g;cases g;rfl
  |go g _=>rw[h]at g;cases g
 |go h _ f=>
  cases e with
  |out g=>rw[h]at g;cases g
  |go g i=>rw[h]at g;cases g;exact f i
theorem xR{a c:Type}{b:a->u (Sg a c)}{s:a}{r:c}(h:zR b s r):bK b s=Z r:=by
 unfold bK;have d:∃r,zR b s r:=⟨r,h⟩
 rw[dif_pos d,d.choose_spec.x_ h]
theorem aF{a c:Type}{b:a->u (Sg a c)}{s:a}{r:c}(h:b s=Z (.out r)):bK b s=Z r:=xR (.out h)
theorem bB{c e:Type}{b:c->u (Sg c e)}{s s':c}(h:b s=Z (.go s')):bK b s=bK b s':=by
 by_cases d:∃r,zR b s' r
 ·obtain⟨r,a⟩:=d;rw[xR a,xR (.go h a)]
 ·have f:¬∃r,zR b s r:=λ⟨r,a⟩=>by
   cases a with
   |out g=>rw[h]at g;cases g
   |go g i=>rw[h]at g;cases g;exact d ⟨r,i⟩
  unfold bK;rw[dif_neg d,dif_neg f]
theorem aN{a β:Type}(f:a->β):∀(l:M a) (i:Nat),nth (l.map f) i=(nth l i).map f
 |[],_=>rfl
 |_::_,0=>rfl
 |_::l,i+1=>aN f l i
theorem wrap_i64{a:Int}(h:-9223372036854775808<=a/\a<=9223372036854775807):IntKind.i64.wrap a=a:=ij (by omega)
theorem wrap_u8{a:Int}(h:0<=a/\a<=255):IntKind.u8.wrap a=a:=by
 simp[IntKind.wrap,IntKind.bits,IntKind.signed];omega
theorem ae8{c:Type}{b:Nat}{a t:M c}(d:b<=65536)(h:a.length+t.length<=2147483648):((a.length+t.length) * b<=room/\a.length+t.length<=maxLen)=True:=by
 refine eq_true ⟨aL (Nat.mul_le_mul h d) (by decide),aL h (by decide)⟩
def MH{a b c:Type}(mk:a->b):Sg a c->Sg b c
 | .go t=>.go (mk t)
 | .out r=>.out r
def sgF{b a:Type}(fin:b->a):Sg b a->a
 | .go t=>fin t
 | .out r=>r
theorem Py{o c g j:Type}{b:g->u (Sg g j)}{es:M o}(mk:Nat->c->g)(step:Nat->c->o->Sg c j)(fin:c->j)(a:Nat->c->Prop)
  (p:∀i e t,nth es i=Z e->a i t->b (mk i t)=Z (MH (mk (i+1)) (step i t e))/\∀d,step i t e=.go d->a (i+1) d)
  (q:∀t,a es.length t->b (mk es.length t)=Z (.out (fin t))) :
  ∀m i t,i+m=es.length->a i t->bK b (mk i t)=Z (sgF fin (iI step i t (es.drop i)))
 |0,i,t,h,n=>by
  obtain rfl:i=es.length:=by omega
  rw[aF (q t n),fC];rfl
 |m+1,i,t,h,n=>by
  have a1:=dV (l:=es) (i:=i) (by omega);obtain⟨f,s⟩:=p i _ t a1 n;rw[ig es i _ a1];simp only[iI];cases k:step i t es[i]with
  |go d=>
   rw[k]at f;rw[bB f];exact Py mk step fin a p q m (i+1) d (by omega) (s d k)
  |out r=>
   rw[k]at f;rw[aF f];rfl
theorem yD{g c d f:Type}{b:d->u (Sg d f)}(es:M g)(mk:Nat->c->d)(step:Nat->c->g->Sg c f)(fin:c->f)(a:Nat->c->Prop)(t:c)(m:a 0 t)
  (k:∀i e t,nth es i=Z e->a i t->b (mk i t)=Z (MH (mk (i+1)) (step i t e))/\∀j,step i t e=.go j->a (i+1) j)
  (l:∀t,a es.length t->b (mk es.length t)=Z (.out (fin t))):bK b (mk 0 t)=Z (sgF fin (iI step 0 t es)):=by
 have h:=Py mk step fin a k l es.length 0 t (by omega) m
 rwa [cK]at h
theorem n6{k f j:Type}{b:f->u (Sg f j)}(es:M k)(mk:Nat->f)(p:Nat->k->Bool)(a g:j)
  (n:∀i e,nth es i=Z e->b (mk i)=Z (if p i e=I then .go (mk (i+1)) else .out g))
  (o:b (mk es.length)=Z (.out a)):∀m i,i+m=es.length->bK b (mk i)=Z (if allI p i (es.drop i)=I then a else g)
 |0,i,h=>by
  obtain rfl:i=es.length:=by omega
  rw[aF o,fC];rfl
 |m+1,i,h=>by
  have a1:=dV (l:=es) (i:=i) (by omega);have d:=n i _ a1;have q:allI p i (es.drop i)=(p i (es[i]'(by omega)) && allI p (i+1) (es.drop (i+1))):=by rw[ig es i _ a1];rfl
  rw[q];by_cases c:p i (es[i]'(by omega))=I
  ·rw[if_pos c]at d;rw[bB d,c,cJ];exact n6 es mk p a g n o m (i+1) (by omega)
  ·rw[if_neg c]at d;rw[aF d,eg.2 c,cI,if_neg cS]
theorem lf{g c f:Type}{b:c->u (Sg c f)}(es:M g)(mk:Nat->c)(p:g->Bool)(a d:f)
  (j:∀i e,nth es i=Z e->b (mk i)=Z (if p e=I then .go (mk (i+1)) else .out d))
  (k:b (mk es.length)=Z (.out a)):bK b (mk 0)=Z (if es.all p=I then a else d):=by
 have h:=n6 es mk (λ_=>p) a d j k es.length 0 (by omega)
 rwa [cK,uy]at h
theorem Px{g d f:Type}{b:d->u (Sg d f)}(es:M g)(mk:Nat->d)(p:g->Bool)(none_:f)(k:Nat->g->f)
  (n:∀i e,nth es i=Z e->b (mk i)=Z (if p e=I then .out (k i e) else .go (mk (i+1))))
  (o:b (mk es.length)=Z (.out none_)):∀m i,i+m=es.length->bK b (mk i)=Z (match nZ p (es.drop i) i with|none=>none_|some j=>match nth es j with|some e=>k j e|none=>none_)
 |0,i,h=>by
  obtain rfl:i=es.length:=by omega
  rw[aF o,fC];rfl
 |m+1,i,h=>by
  have a1:=dV (l:=es) (i:=i) (by omega);have c:=n i _ a1;rw[ig es i _ a1];simp only[nZ];by_cases a:p (es[i]'(by omega))=I
  ·rw[if_pos a]at c;rw[aF c,if_pos a];simp only[a1]
  ·rw[if_neg a]at c;rw[bB c,if_neg a];exact Px es mk p none_ k n o m (i+1) (by omega)
theorem pK{d a c:Type}{b:a->u (Sg a c)}(es:M d)(mk:Nat->a)(p:d->Bool)(none_:c)(f:Nat->d->c)
  (g:∀i e,nth es i=Z e->b (mk i)=Z (if p e=I then .out (f i e) else .go (mk (i+1))))
  (k:b (mk es.length)=Z (.out none_)):bK b (mk 0)=Z (match nZ p es 0 with|none=>none_|some j=>match nth es j with|some e=>f j e|none=>none_):=by
 have h:=Px es mk p none_ f g k es.length 0 (by omega)
 rwa [cK]at h
theorem fM{k c a d:Type}{b:a->u (Sg a d)}(es:M k)(mk:Nat->c->a)(f:Nat->c)(fin:d)
  (g:∀i e,nth es i=Z e->b (mk i (f i))=Z (.go (mk (i+1) (f (i+1)))))
  (j:b (mk es.length (f es.length))=Z (.out fin)):∀m i,i+m=es.length->bK b (mk i (f i))=Z fin
 |0,i,h=>by
  obtain rfl:i=es.length:=by omega
  exact aF j
 |m+1,i,h=>by
  have a1:=dV (l:=es) (i:=i) (by omega);rw[bB (g i _ a1)];exact fM es mk f fin g j m (i+1) (by omega)
def nr{β:Type}(i:Nat):M β->Int ⊕ (Int×M β)
 |[]=>.inl i
 |x::t=>.inr (i,x::t)
end
section
inductive ST where
 |nil
 |cons (a b:ST)
 |op (gs:Gs) (o:PO) (es:List SE) (t:ST)
 |gd (gs:Gs) (a b:ST)
 |call (i:Nat) (es:List SE) (ts:ST)
 |leaf (j:Nat) (es:List SE)
 |map (f:List Nat) (t:ST)
 |seq (t ts:ST)
 |loop (h:Nat) (es:List SE) (bs:ST)
 |both (a b:ST)
 deriving DecidableEq
abbrev Gf:=Nat->M D->u (Nat×M D)
def wR:u (Nat×M D)->u (Sg (Nat×M D) (Nat×M D))
 |some (j,σ)=>Z (if j % 2=0 then .go (j / 2,σ) else .out (j / 2,σ))
 |none=>O
open Classical in
noncomputable def F6{c:Type}:u c->u c->u c
 |some a,Z b=>if a=b then Z a else O
 |_,_=>O
theorem Kj{c:Type}{a b:u c}{r:c}(h:F6 a b=Z r):a=Z r/\b=Z r:=by
 unfold F6 at h
 split at h
 ·split at h
  ·rename_i d;cases h;subst d;exact⟨rfl,rfl⟩
  ·cases h
 ·cases h
theorem CW{b:Type}(a:b):F6 (Z a) (Z a)=Z a:=by simp[F6]
noncomputable def dY(G:Gf):ST->Nat->M D->u (Nat×M D)
 | .nil,_,_=>O
 | .cons a _,0,ρ=>dY G a 0 ρ
 | .cons _ b,j+1,ρ=>dY G b j ρ
 | .op gs o es t,_,ρ=>match iJ ρ gs with
  |some I=>match iT ρ es with
   |some d=>match aK o d with
    |some x=>dY G t 0 (ρ++[x])
    |none=>O
   |none=>O
  |some J=>dY G t 0 (ρ++[.bool J])
  |none=>O
 | .gd gs a b,_,ρ=>match iJ ρ gs with
  |some I=>dY G a 0 ρ
  |some J=>dY G b 0 ρ
  |none=>O
 | .call i es e,_,ρ=>match iT ρ es with
  |some d=>match G i d with
   |some (j,ws)=>dY G e j (ρ++ws)
   |none=>O
  |none=>O
 | .leaf j es,_,ρ=>match iT ρ es with
  |some d=>Z (j,d)
  |none=>O
 | .map f t,_,ρ=>match dY G t 0 ρ with
  |some (j,c)=>(nth f j).map (·,c)
  |none=>O
 | .seq t e,_,ρ=>match dY G t 0 ρ with
  |some (j,c)=>dY G e j c
  |none=>O
 | .loop h es g,_,ρ=>match iT ρ es with
  |some c=>bK (λp=>wR (dY G g p.1 p.2)) (h,c)
  |none=>O
 | .both a b,_,ρ=>F6 (dY G a 0 ρ) (dY G b 0 ρ)
def MZ(c:Nat):SB->SB×M SE
 | .d e=>(.d (.v c),[e])
 |x=>(x,[])
def wO:Nat->M SB->M SB×M SE
 |_,[]=>([],[])
 |c,x::xs=>match MZ c x with
  |(y,es)=>match wO (c+es.length) xs with
   |(ys,fs)=>(y::ys,es++fs)
def HV:Nat->M (SB ⊕ M SB)->M (SB ⊕ M SB)×M SE
 |_,[]=>([],[])
 |c,.inl x::xs=>match MZ c x with
  |(y,es)=>match HV (c+es.length) xs with
   |(ys,fs)=>(.inl y::ys,es++fs)
 |c,.inr x::xs=>match wO c x with
  |(y,es)=>match HV (c+es.length) xs with
   |(ys,fs)=>(.inr y::ys,es++fs)
def Rg(c:Nat):SC->SC×M SE
 | .b x=>match MZ c x with
  |(y,es)=>(.b y,es)
 | .agg xs=>match wO c xs with
  |(ys,es)=>(.agg ys,es)
 | .rf xs=>match HV c xs with
  |(ys,es)=>(.rf ys,es)
 | .ptr b o=>(.ptr b o,[])
 | .oO r k i o=>(.oO r k (.v c) o,[i])
 | .tN i o=>(.tN c o,[.v i])
 | .any=>(.any,[])
def Bm(a:Gs):Nat->M (Nat×SG)->M (Nat×SG)×M SE
 |_,[]=>([],[])
 |c,(d,g)::l=>if g.gs.all (λp=>Z' (p∈a)) then (match Rg c g.c with
   |(y,es)=>match Bm a (c+es.length) l with
    |(ys,fs)=>((d,⟨[],y⟩)::ys,es++fs))
  else match Bm a c l with
   |(ys,fs)=>((d,⟨[],.any⟩)::ys,fs)
def Gg:Nat->M (Nat×M SB)->M (Nat×M SB)×M SE
 |_,[]=>([],[])
 |c,(d,x)::l=>match wO c x with
  |(y,es)=>match Gg (c+es.length) l with
   |(ys,fs)=>((d,y)::ys,es++fs)
def Gi:Nat->M (Nat×SR)->M (Nat×SR)×M SE
 |_,[]=>([],[])
 |c,(d,x)::l=>match Gi (c+1) l with
   |(ys,fs)=>((d,{x with e:=.v c })::ys,x.e::fs)
def ahn(d:Nat):M Nat->M Nat
 |[]=>[d]
 |e::l=>if d < e then d::e::l else if d=e then e::l else e::ahn d l
def PN{a:Type}:M (Nat×a)->M Nat
 |[]=>[]
 |(d,_)::l=>ahn d (PN l)
def SS.keys(S:SS):n_:=⟨PN S.sl,PN S.bx,PN S.rw⟩
def Rh(a:Gs)(S:SS):SS×M SE:=
 match Bm a 0 (S.eB S.keys).sl with
 |(sl,es)=>match Gg es.length (S.eB S.keys).bx with
  |(bx,fs)=>match Gi (es.length+fs.length) (S.eB S.keys).rw with
   |(rw,gs)=>(⟨sl,bx,rw⟩,es++(fs++gs))
section
variable {ρ:M D}
theorem Je{a:Type}:∀(l:M a) (x:a) (m:M a),nth (l++([x]++m)) l.length=Z x:=λl x m=>j8 l x m
theorem HU{c:Nat}{x y:SB}{es:M SE}{v:C}{h:M D}(f:MZ c x=(y,es))(g:kI ρ x v)(j:iT ρ es=Z h){b σ1:M D}(m:b.length=c):kI (b++(h++σ1)) y v:=by
 subst m;cases x with
 |d e=>
  cases f;obtain⟨a,l,rfl⟩:=g;obtain⟨w,i,rfl⟩:=fv j;rw[l]at i;cases i;exact⟨a,Je _ _ _,rfl⟩
 |nil k n=>cases f;exact g
 |ref r=>cases f;exact g
 |any=>cases f;trivial
theorem mP:∀{es fs:M SE} {c:M D},iT ρ (es++fs)=Z c->∃b a,iT ρ es=Z b/\iT ρ fs=Z a/\c=b++a
 |[],_,c,h=>⟨[],c,rfl,h,rfl⟩
 |e::es,_,_,h=>by
  obtain⟨x,ys,i,g,rfl⟩:=dx (es:=es++_) h;obtain⟨b,a,f,d,rfl⟩:=mP g;exact⟨x::b,a,by simp only[iT,i,f,aH],d,rfl⟩
theorem ym:∀{b:M SB} {c:Nat} {ys:M SB} {es:M SE} {e:M C} {d σ0 σ1:M D},wO c b=(ys,es)->eR ρ b e->iT ρ es=Z d->σ0.length=c->eR (σ0++(d++σ1)) ys e
 |[],_,_,_,_,_,_,_,a,i,g,f=>by
  cases a;exact i
 |x::b,c,ys,es,e,d,σ0,σ1,a,⟨v,p,j,o,n⟩,g,f=>by
  subst j;simp only[wO]at a;generalize m:MZ c x=q at a;obtain⟨y,t⟩:=q;simp only at a
  generalize l:wO (c+t.length) b=q at a;obtain⟨w,fs⟩:=q;cases a;obtain⟨s,r,h,k,rfl⟩:=mP g;refine⟨v,p,rfl,?_,?_⟩
  ·have:=HU m o h f (σ1:=r++σ1)
   simpa only [bE] using this
  ·have:=ym l n k (σ0:=σ0++s) (σ1:=σ1) (by rw[aR,f,lr h])
   simpa only [bE] using this
theorem HW:∀{b:M (SB ⊕ M SB)} {c:Nat} {ys:M (SB ⊕ M SB)} {es:M SE} {g:M C} {f σ0 σ1:M D},HV c b=(ys,es)->uw ρ b g->iT ρ es=Z f->σ0.length=c->uw (σ0++(f++σ1)) ys g
 |[],_,_,_,_,_,_,_,a,t,h,d=>by
  cases a;exact t
 | .inl x::b,c,ys,es,g,f,σ0,σ1,a,⟨v,o,i,n,m⟩,h,d=>by
  subst i;simp only[HV]at a;generalize l:MZ c x=q at a;obtain⟨y,s⟩:=q;simp only at a
  generalize k:HV (c+s.length) b=q at a;obtain⟨w,fs⟩:=q;cases a;obtain⟨r,p,e,j,rfl⟩:=mP h;refine⟨v,o,rfl,?_,?_⟩
  ·have:=HU l n e d (σ1:=p++σ1)
   simpa only [bE] using this
  ·have:=HW k m j (σ0:=σ0++r) (σ1:=σ1) (by rw[aR,d,lr e])
   simpa only [bE] using this
 | .inr x::b,c,ys,es,g,f,σ0,σ1,a,⟨v,o,i,n,m⟩,h,d=>by
  subst i;simp only[HV]at a;generalize l:wO c x=q at a;obtain⟨y,s⟩:=q;simp only at a
  generalize k:HV (c+s.length) b=q at a;obtain⟨w,fs⟩:=q;cases a;obtain⟨r,p,e,j,rfl⟩:=mP h;refine⟨v,o,rfl,?_,?_⟩
  ·have:=ym l n e d (σ1:=p++σ1)
   simpa only [bE] using this
  ·have:=HW k m j (σ0:=σ0++r) (σ1:=σ1) (by rw[aR,d,lr e])
   simpa only [bE] using this
theorem Y1{c:Nat}{x y:SC}{es:M SE}{v:C}{t:M D}(a:Rg c x=(y,es))(g:lD ρ x v)(j:iT ρ es=Z t){h σ1:M D}(l:h.length=c):lD (h++(t++σ1)) y v:=by
 cases x with
 |b x=>
  simp only[Rg]at a;generalize e:MZ c x=q at a;obtain⟨A,B⟩:=q;cases a;exact HU e g j l
 |agg s=>
  simp only[Rg]at a;generalize e:wO c s=q at a;obtain⟨A,B⟩:=q;cases a;obtain⟨m,rfl,f⟩:=g;exact⟨m,rfl,ym e f j l⟩
 |rf s=>
  simp only[Rg]at a;generalize e:HV c s=q at a;obtain⟨A,B⟩:=q;cases a;obtain⟨m,rfl,f⟩:=g;exact⟨m,rfl,HW e f j l⟩
 |ptr b o=>cases a;exact g
 |oO r k i o=>
  cases a;subst l;obtain⟨n,f,rfl⟩:=g;obtain⟨w,p,rfl⟩:=fv j;rw[f]at p;cases p;exact⟨n,Je _ _ _,rfl⟩
 |tN i o=>
  cases a;subst l;obtain⟨x,m,f,p,rfl⟩:=g;obtain⟨w,e,rfl⟩:=fv j;rw[SE.d,f]at e;cases e;exact⟨x,m,Je _ _ _,p,rfl⟩
 |any=>cases a;trivial
theorem CX{f:Gs}(m:iJ ρ f=Z I):∀{l:M (Nat×SG)} {c:Nat} {k:M (Nat×SG)} {es:M SE} {j σ0 σ1:M D},Bm f c l=(k,es)->iT ρ es=Z j->σ0.length=c->
  ∀d g,look k d=Z g->∃e,look l d=Z e/\∀v,qg ρ e v->qg (σ0++(j++σ1)) g v
 |[],_,_,_,_,_,_,a,n,i=>by
  cases a;intro d g h;cases h
 |(d0,e)::l,c,k,es,j,σ0,σ1,a,n,i=>by
  intro d g h;simp only[Bm]at a
  split at a
  ·rename_i w;generalize A:Rg c e.c=q at a;obtain⟨y,G⟩:=q;simp only at a
   generalize o:Bm f (c+G.length) l=q at a;obtain⟨F,fs⟩:=q;cases a;obtain⟨C,B,s,x,rfl⟩:=mP n;simp only[look]at h ⊢
   split at h
   ·rename_i hd;cases h;refine⟨e,by rw[if_pos hd],λv r=>?_⟩;obtain⟨b,p,t,H⟩:=r;rw[Ng m w]at p;cases p;have:=Y1 A (t rfl) s i (σ1:=B++σ1);exact qg.nil (by simpa only [bE] using this)
   ·rename_i hd;rw[if_neg hd];have:=CX m o x (σ0:=σ0++C) (σ1:=σ1) (by rw[aR,i,lr s]) d g h
    simpa only [bE] using this
  ·generalize o:Bm f c l=q at a;obtain⟨F,fs⟩:=q;cases a;simp only[look]at h ⊢
   split at h
   ·rename_i hd;cases h;exact⟨e,by rw[if_pos hd],λv r=>qg.nil trivial⟩
   ·rename_i hd;rw[if_neg hd];exact CX m o n i d g h
theorem Kl:∀{l:M (Nat×M SB)} {c:Nat} {f:M (Nat×M SB)} {es:M SE} {e σ0 σ1:M D},Gg c l=(f,es)->iT ρ es=Z e->σ0.length=c->
  ∀d g,look f d=Z g->∃b,look l d=Z b/\∀v,eR ρ b v->eR (σ0++(e++σ1)) g v
 |[],_,_,_,_,_,_,a,j,i=>by
  cases a;intro d g h;cases h
 |(d0,b)::l,c,f,es,e,σ0,σ1,a,j,i=>by
  intro d g h;simp only[Gg]at a;generalize p:wO c b=q at a;obtain⟨y,t⟩:=q;simp only at a
  generalize o:Gg (c+t.length) l=q at a;obtain⟨w,fs⟩:=q;cases a;obtain⟨s,r,k,n,rfl⟩:=mP j;simp only[look]at h ⊢
  split at h
  ·rename_i hd;cases h;refine⟨b,by rw[if_pos hd],λv m=>?_⟩;have:=ym p m k i (σ1:=r++σ1)
   simpa only [bE] using this
  ·rename_i hd;rw[if_neg hd];have:=Kl o n (σ0:=σ0++s) (σ1:=σ1) (by rw[aR,i,lr k]) d g h
   simpa only [bE] using this
theorem Km:∀{l:M (Nat×SR)} {c:Nat} {f:M (Nat×SR)} {es:M SE} {e σ0 σ1:M D},Gi c l=(f,es)->iT ρ es=Z e->σ0.length=c->
  ∀d g,look f d=Z g->∃b,look l d=Z b/\∀v,Yp ρ b v->Yp (σ0++(e++σ1)) g v
 |[],_,_,_,_,_,_,a,k,i=>by
  cases a;intro d g h;cases h
 |(d0,b)::l,c,f,es,e,σ0,σ1,a,k,i=>by
  intro d g h;simp only[Gi]at a;generalize p:Gi (c+1) l=q at a;obtain⟨t,fs⟩:=q;cases a;obtain⟨x,r,o,n,rfl⟩:=dx k;simp only[look]at h ⊢
  split at h
  ·rename_i hd;cases h;refine⟨b,by rw[if_pos hd],λv m=>?_⟩;obtain⟨s,j,rfl⟩:=m;rw[o]at j;cases j;subst i;exact⟨s,j8 σ0 _ (r++σ1),rfl⟩
  ·rename_i hd;rw[if_neg hd];have:=Km p n (σ0:=σ0++[x]) (σ1:=σ1) (by rw[aR,i];rfl) d g h
   simpa only [bE,aq,ay] using this
theorem Rel.anA{S:SS}{s:St}(h:Rel ρ S s)(e:n_):Rel ρ (S.eB e) s:=
 ⟨λd g a=>h.sl d g (i_ _ _ a).1,λb c a=>h.bx b c (i_ _ _ a).1,λr x a=>h.rw r x (i_ _ _ a).1⟩
theorem OW{S v:SS}{s:St}{n:Gs}{es:M SE}{t:M D}(h:Rel ρ S s)(B:iJ ρ n=Z I)(a:Rh n S=(v,es))(C:iT ρ es=Z t):Rel t v s:=by
 have h:=h.anA S.keys;unfold Rh at a;generalize H:Bm n 0 (S.eB S.keys).sl=q at a;obtain⟨sl,w⟩:=q;simp only at a
 generalize G:Gg w.length (S.eB S.keys).bx=q at a;obtain⟨bx,o⟩:=q;simp only at a
 generalize F:Gi (w.length+o.length) (S.eB S.keys).rw=q at a;obtain⟨A,K⟩:=q;cases a;obtain⟨σ1,L,g1,g2,rfl⟩:=mP C;obtain⟨e,c,g3,g4,rfl⟩:=mP g2;refine⟨λd g j=>?_,λb y j=>?_,λr x j=>?_⟩
 ·obtain⟨k,i,f⟩:=CX B H g1 (σ0:=[]) (σ1:=e++c) rfl d g j;exact f _ (h.sl d k i)
 ·obtain⟨k,i,f⟩:=Kl G g3 (σ0:=σ1) (σ1:=c) (lr g1) b y j;obtain⟨p,m,l⟩:=h.bx b k i;exact⟨p,m,f _ l⟩
 ·obtain⟨k,i,f⟩:=Km F g4 (σ0:=σ1++e) (σ1:=[]) (by rw[aR,lr g1,lr g3]) r x j;obtain⟨p,m,l⟩:=h.rw r k i;refine⟨p,m,?_⟩;have:=f _ l
  simpa only [bE,aQ] using this
end
end
section
inductive Fh where
 |d
 |row (k:Nat) (fl deep app fz:Bool)
 deriving DecidableEq
inductive SA where
 |val (ag:Bool) (l:List Fh)
 |box (l:List Fh)
 deriving DecidableEq
structure lP where
 f:Nat
 args:List SA
 res:List (List SA×List SA)
 deriving DecidableEq
def SA.n:SA->Nat
 | .val _ l=>l.length
 | .box l=>l.length
def SA.l:SA->M Fh
 | .val _ l=>l
 | .box l=>l
def Ag:Fh->D->u RV
 | .d,x=>Z (.d x)
 | .row k a deep app fz,.list c b es=>if c=k/\b=a then Z (.row ⟨es,k,a,deep,app,fz⟩) else O
 |_,_=>O
def mo:M Fh->M D->u (M RV)
 |[],[]=>Z []
 |v::a,x::xs=>match Ag v x with
  |some r=>(mo a xs).map (r::·)
  |none=>O
 |_,_=>O
def lR:SA->M D->u A
 | .val a l,xs=>(mo l xs).map (.val a)
 | .box l,xs=>(mo l xs).map .box
def gN:M SA->M D->u (M A)
 |[],[]=>Z []
 |[],_::_=>O
 |a::as,xs=>match lR a (xs.take a.n) with
  |some r=>(gN as (xs.drop a.n)).map (r::·)
  |none=>O
def tY:M SA->Nat
 |[]=>0
 |a::as=>a.n+tY as
def wq(v:M SA×M SA)(a:M D):u (M A×M A):=
 match gN v.1 (a.take (tY v.1)),gN v.2 (a.drop (tY v.1)) with
 |some rs,Z outs=>Z (rs,outs)
 |_,_=>O
def Yn(e:Cf)(d:M (Nat×lP))(G:Gf):Prop:=
 ∀i a,look d i=Z a->∀b j c,G i b=Z (j,c)->∃as r v,gN a.args b=Z as/\nth a.res j=Z v/\wq v c=Z r/\e a.f as=Z r
def rdS(S:SS):SB->u SE
 | .d e=>Z e
 | .nil k a=>Z (.k (.nil k a))
 | .ref r=>(look S.rw r).map (·.e)
 | .any=>O
def wrS(S:SS):SB->u (Fh×SE)
 | .d e=>Z (.d,e)
 | .nil k a=>Z (.row k a I I J,.k (.nil k a))
 | .ref r=>(look S.rw r).map λx=>(.row x.k x.fl x.deep x.app x.fz,x.e)
 | .any=>O
def SC.isAgg:SC->Bool
 | .agg _=>I
 |_=>J
def aa6(S:SS):SC->u (SA×M SE)
 | .ptr b 0=>match look S.bx b with
  |some a=>(gJ (wrS S) a).map λl=>(.box (l.map (·.1)),l.map (·.2))
  |none=>O
 |c=>match c.cells with
  |some a=>(gJ (rdS S) a).map λl=>(.val c.isAgg (l.map λ_=>.d),l)
  |none=>O
def EM(S:SS):M SC->u (M SA×M SE)
 |[]=>Z ([],[])
 |c::cs=>match aa6 S c with
  |some (a,es)=>(EM S cs).map λp=>(a::p.1,es++p.2)
  |none=>O
def gK:M SB->M Nat
 |[]=>[]
 | .ref r::cs=>r::gK cs
 |_::cs=>gK cs
def tm(S:SS):SC->M Nat
 | .ptr b 0=>gK ((look S.bx b).getD [])
 |_=>[]
def tj(S:SS):M SC->M Nat
 |[]=>[]
 |c::cs=>tm S c++tj S cs
def yR:M SC->M Nat
 |[]=>[]
 |c::cs=>gK (c.cells.getD [])++yR cs
def qI:M SC->M Nat
 |[]=>[]
 | .ptr b _::cs=>b::qI cs
 |_::cs=>qI cs
section
variable {ρ:M D} {S:SS} {s:St}
theorem ae5(h:Rel ρ S s){x:SB}{v:C}{e:SE}(a:kI ρ x v)(b:rdS S x=Z e):∃y,e.d ρ=Z y/\mJ s v=Z (.d y):=by
 cases x with
 |d j=>cases b;obtain⟨y,c,rfl⟩:=a;exact⟨y,c,rfl⟩
 |nil k i=>cases b;simp only[kI]at a;subst a;exact⟨_,rfl,rfl⟩
 |ref r=>
  simp only[kI]at a;subst a;obtain⟨x,c,rfl⟩:=ak.1 b;obtain⟨y,g,es,f,rfl⟩:=h.rw r x c;exact⟨_,f,by simp only[mJ,g,aH]⟩
 |any=>cases b
theorem afw(h:Rel ρ S s){x:SB}{v:C}{p:Fh×SE}(a:kI ρ x v)(b:wrS S x=Z p):∃y r,p.2.d ρ=Z y/\jT s v=Z r/\Ag p.1 y=Z r:=by
 cases x with
 |d i=>cases b;obtain⟨y,c,rfl⟩:=a;exact⟨y,_,c,rfl,rfl⟩
 |nil k g=>cases b;simp only[kI]at a;subst a;exact⟨_,_,rfl,rfl,by simp[SK.d,Ag]⟩
 |ref r=>
  simp only[kI]at a;subst a;obtain⟨x,c,rfl⟩:=ak.1 b;obtain⟨y,f,es,e,rfl⟩:=h.rw r x c;exact⟨_,.row ⟨es,x.k,x.fl,x.deep,x.app,x.fz⟩,e,by simp only[jT,f,aH],by simp[Ag]⟩
 |any=>cases b
theorem QG(h:Rel ρ S s):∀{g:M SB} {b:M C} {es:M SE},eR ρ g b->gJ (rdS S) g=Z es->∃ys c,iT ρ es=Z ys/\gJ (mJ s) b=Z c/\mo (es.map λ_=>.d) ys=Z c
 |[],b,_,f,a=>by cases a;simp only[eR]at f;subst f;exact⟨[],[],rfl,rfl,rfl⟩
 |x::g,_,es,⟨v,b,f,q,p⟩,a=>by
  subst f;simp only[gJ]at a
  split at a
  ·rename_i e i;obtain⟨r,o,rfl⟩:=ak.1 a;obtain⟨y,n,m⟩:=ae5 h q i;obtain⟨ys,c,l,k,j⟩:=QG h p o;exact⟨y::ys,.d y::c,by simp only[iT,n,l,aH],by simp only[gJ,m,k,aH],by simp only[aW,mo,Ag,j,aH]⟩
  ·cases a
theorem zF(h:Rel ρ S s):∀{e:M SB} {b:M C} {f:M (Fh×SE)},eR ρ e b->gJ (wrS S) e=Z f->∃ys c,iT ρ (f.map (·.2))=Z ys/\gJ (jT s) b=Z c/\mo (f.map (·.1)) ys=Z c
 |[],b,_,d,a=>by cases a;simp only[eR]at d;subst d;exact⟨[],[],rfl,rfl,rfl⟩
 |x::e,_,es,⟨v,b,d,t,q⟩,a=>by
  subst d;simp only[gJ]at a
  split at a
  ·rename_i p g;obtain⟨w,o,rfl⟩:=ak.1 a;obtain⟨y,r,n,m,i⟩:=afw h t g;obtain⟨ys,c,l,k,j⟩:=zF h q o;exact⟨y::ys,r::c,by simp only[aW,iT,n,l,aH],by simp only[gJ,m,k,aH],by simp only[aW,mo,i,j,aH]⟩
  ·cases a
theorem mN:∀{l:M Fh} {a:M D} {b:M RV},mo l a=Z b->a.length=l.length
 |[],[],_,_=>rfl
 |[],_::_,_,h=>by cases h
 |_::_,[],_,h=>by cases h
 |v::l,x::a,b,h=>by
  simp only[mo]at h
  split at h
  ·obtain⟨ys,c,_⟩:=ak.1 h;simp[mN c]
  ·cases h
theorem pP{a β:Type}{f:a->u β}{p:a->Bool}(c:∀x y,f x=Z y->p x=I):∀{b:M a} {ys:M β},gJ f b=Z ys->b.all p=I
 |[],_,_=>rfl
 |x::b,_,h=>by
  simp only[gJ]at h
  split at h
  ·rename_i y d;obtain⟨ys,e,_⟩:=ak.1 h;simp only[bJ,c x y d,pP c e,kv]
  ·cases h
theorem Xf{x:SB}{e:SE}(h:rdS S x=Z e):x.cell=I:=by cases x<;>first|rfl|cases h
theorem vx{x:SB}{e:Fh×SE}(h:wrS S x=Z e):x.cell=I:=by cases x<;>first|rfl|cases h
theorem nq:∀{c:M SB} {f:M C},eR ρ c f->c.all SB.cell=I->rowsOf f=gK c
 |[],_,h,_=>by simp only[eR]at h;subst h;rfl
 |x::c,_,⟨v,f,i,b,g⟩,a=>by
  subst i;simp only[bJ,af]at a;cases x with
  |d e=>obtain⟨y,_,rfl⟩:=b;simp only[rowsOf,gK];exact nq g a.2
  |nil k j=>simp only[kI]at b;subst b;simp only[rowsOf,gK];exact nq g a.2
  |ref r=>simp only[kI]at b;subst b;simp only[rowsOf,gK,nq g a.2]
  |any=>cases a.1
def T4(c:SC)(v:C):Prop:=(∃b,c=.ptr b 0/\v=.ptr b 0)\/((∀b o,c≠.ptr b o)/\∀b o,v≠.ptr b o)
theorem aa7(h:Rel ρ S s){c:SC}{v:C}{a:SA}{es:M SE}(q:lD ρ c v)(g:aa6 S c=Z (a,es)) :
  ∃f r,iT ρ es=Z f/\Oz s v=Z r/\lR a f=Z r/\f.length=a.n/\qy s v=tm S c/\rowsOf v.cells=gK (c.cells.getD [])/\T4 c v:=by
 have val:∀{i:M SB} {l:M SE},c.cells=Z i->gJ (rdS S) i=Z l->a=.val c.isAgg (l.map λ_=>.d)->es=l->(∀b o,c≠.ptr b o)->
   ∃f r,iT ρ es=Z f/\Oz s v=Z r/\lR a f=Z r/\f.length=a.n/\qy s v=tm S c/\rowsOf v.cells=gK (c.cells.getD [])/\T4 c v:=by
  rintro i l e j rfl rfl t
  have A:=pP (λ_ _=>Xf) j;have H:=q.cells e A;obtain⟨ys,F,m,k,y⟩:=QG h H j;have G:∀b o,v≠.ptr b o:=by
   rintro b o rfl
   cases c with
   |b x=>
    cases e;have:=kI.cell q (by simpa using A);cases this
   |agg ys=>obtain⟨L,B,_⟩:=q;cases B
   |ptr b o=>exact t b o rfl
   |rf _=>cases e
   |oO _ _ _ _=>cases e
   |tN _ _=>cases e
   |any=>cases e
  have P:v.isAgg=c.isAgg:=by
   cases c with
   |b x=>
    cases e;have:=kI.cell q (by simpa using A);cases v<;>first|rfl|cases this
   |agg ys=>obtain⟨L,rfl,_⟩:=q;rfl
   |ptr b o=>exact absurd rfl (t b o)
   |rf _=>cases e
   |oO _ _ _ _=>cases e
   |tN _ _=>cases e
   |any=>cases e
  refine⟨ys,.val v.isAgg F,m,?_,by rw[P];simp only[lR,y,aH],by rw[mN y];rfl,?_,?_,.inr ⟨t,G⟩⟩
  ·unfold Oz;split
   ·exact absurd rfl (G _ _)
   ·simp only[k,aH]
  ·have:qy s v=[]:=by
    unfold qy;split
    ·exact absurd rfl (G _ _)
    ·rfl
   rw[this];unfold tm;split
   ·exact absurd rfl (t _ _)
   ·rfl
  ·rw[e,nq H A];rfl
 have box:∀{b:Nat} {i:M SB} {l:M (Fh×SE)},c=.ptr b 0->look S.bx b=Z i->gJ (wrS S) i=Z l->a=.box (l.map (·.1))->es=l.map (·.2)->
   ∃f r,iT ρ es=Z f/\Oz s v=Z r/\lR a f=Z r/\f.length=a.n/\qy s v=tm S c/\rowsOf v.cells=gK (c.cells.getD [])/\T4 c v:=by
  rintro b i l rfl j m rfl rfl
  simp only[lD]at q;subst q;obtain⟨L,y,B⟩:=h.bx b i j;obtain⟨ys,F,R,Q,K⟩:=zF h B m;refine⟨ys,.box F,R,by simp only[Oz,y,Q,aH],by simp only[lR,K,aH],by rw[mN K];rfl,?_,rfl,.inl ⟨b,rfl,rfl⟩⟩;have:=nq B (pP (p:=SB.cell) (λ_ _=>vx) m);simp only[qy,tm,y,j,dB,this]
 have w:(∀b o,c≠.ptr b o)->(match c.cells with
  |some i=>(gJ (rdS S) i).map λl=>(SA.val c.isAgg (l.map λ_=>Fh.d),l)
  |none=>O)=Z (a,es)->∃f r,iT ρ es=Z f/\Oz s v=Z r/\lR a f=Z r/\f.length=a.n/\qy s v=tm S c/\rowsOf v.cells=gK (c.cells.getD [])/\T4 c v:=by
  intro t g;rcases e:c.cells with _|i
  ·rw[e]at g;cases g
  ·have N:=g;rw[e]at N;obtain⟨l,m,k⟩:=ak.1 N;simp only[aA]at k;have:=val e m k.1.symm k.2.symm t;rw[e]at this;exact this
 cases c with
 |ptr b o=>
  cases o with
  |zero=>
   rcases j:look S.bx b with _|i
   ·simp only[aa6,j]at g;cases g
   ·simp only[aa6,j]at g;obtain⟨l,m,k⟩:=ak.1 g;simp only[aA]at k;have:=box rfl j m k.1.symm k.2.symm;exact this
  |succ o=>cases g
 |b x=>exact w (λ_ _ h=>by cases h) g
 |agg x=>exact w (λ_ _ h=>by cases h) g
 |rf x=>exact w (λ_ _ h=>by cases h) g
 |oO _ _ _ _=>exact w (λ_ _ h=>by cases h) g
 |tN _ _=>exact w (λ_ _ h=>by cases h) g
 |any=>exact w (λ_ _ h=>by cases h) g
def OO:M SC->M C->Prop
 |[],a=>a=[]
 |c::cs,a=>∃v b,a=v::b/\T4 c v/\OO cs b
theorem take_left'{c:Type}{a b:M c}{n:Nat}(h:a.length=n):(a++b).take n=a:=by subst h;exact nX
theorem drop_left'{c:Type}{a b:M c}{n:Nat}(h:a.length=n):(a++b).drop n=b:=by subst h;exact xX
theorem EN(h:Rel ρ S s):∀{e:M SC} {d:M C} {as:M SA} {es:M SE},HO ρ e d->EM S e=Z (as,es)->
  ∃g i,iT ρ es=Z g/\vu s d=Z i/\gN as g=Z i/\dR s d=tj S e/\ji d=yR e/\cO d=qI e/\OO e d
 |[],_,_,_,j,f=>by
  simp only[HO]at j;subst j;cases f;exact⟨[],[],rfl,rfl,rfl,rfl,rfl,rfl,rfl⟩
 |c::e,_,as,es,⟨v,d,j,P,N⟩,f=>by
  subst j;simp only[EM]at f
  split at f
  ·rename_i a W L;obtain⟨p,K,n⟩:=ak.1 f;obtain⟨V,Q⟩:=p;simp only[aA]at n;obtain⟨rfl,rfl⟩:=n;obtain⟨g,r,H,G,F,m,B,A,l⟩:=aa7 h P L;obtain⟨U,i,y,x,w,t,q,k,o⟩:=EN h N K;refine⟨g++U,r::i,qq H y,by simp only[vu,G,x,aH],?_,by simp only[dR,tj,B,t],by simp only[ji,yR,A,q],?_,v,d,rfl,l,o⟩
   ·simp only[gN,take_left' m,drop_left' m,F,w,aH]
   ·rcases l with ⟨b,rfl,rfl⟩|⟨n1,n2⟩
    ·simp only[cO,qI,k]
    ·have T:qI (c::e)=qI e:=by
      cases c<;>first|rfl|exact absurd rfl (n1 _ _)
     have R:cO (v::d)=cO d:=by
      cases v<;>first|rfl|exact absurd rfl (n2 _ _)
     rw[T,R,k]
  ·cases f
def Loc(ρ:M D)(c:Nat)(a:M D):Prop:=∀i x,nth a i=Z x->nth ρ (c+i)=Z x
theorem Loc.tail{c:Nat}{x:D}{a:M D}(h:Loc ρ c (x::a)):Loc ρ (c+1) a:=λi y b=>by
 have:=h (i+1) y b;rw[cV,Nat.add_comm 1 i];exact this
theorem Loc.drop:∀{a:M D} {c:Nat} (n:Nat),Loc ρ c a->Loc ρ (c+n) (a.drop n)
 |a,c,0,h=>h
 |[],c,n+1,h=>λi y b=>by cases b
 |x::a,c,n+1,h=>by
  have:=Loc.drop n h.tail;rw[cV,Nat.add_comm 1 n]at this;exact this
theorem LN{a:Type}:∀{us:M a} {n i:Nat} {x:a},nth (us.take n) i=Z x->nth us i=Z x
 |[],n,i,x,h=>by simp[nth]at h
 |y::us,0,i,x,h=>by simp[nth]at h
 |y::us,n+1,0,x,h=>h
 |y::us,n+1,i+1,x,h=>LN (us:=us) h
theorem Loc.take{a:M D}{c:Nat}(n:Nat)(h:Loc ρ c a):Loc ρ c (a.take n):=λi x b=>h i x (LN b)
theorem Loc.new(a:M D):Loc (ρ++a) ρ.length a:=by
 intro i x c
 induction ρ with
 |nil=>simpa using c
 |cons y ρ b=>rw[aE,Nat.add_right_comm];exact b
def Lo(d:Nat):Nat->M Fh->Nat->SS->M SB×SS
 |_,[],_,S=>([],S)
 |j,.d::l,c,S=>match Lo d (j+1) l (c+1) S with
  |(xs,a)=>(.d (.v c)::xs,a)
 |j,.row k b deep app fz::l,c,S=>match Lo d (j+1) l (c+1) (S.newRow (um d j) ⟨.v c,k,b,deep,app,fz⟩) with
  |(xs,a)=>(.ref (um d j)::xs,a)
theorem xu{d:Nat}:∀{l:M Fh} {j c:Nat} {S p:SS} {s:St} {B:M D} {n:M RV} {m:M SB},Rel ρ S s->mo l B=Z n->Loc ρ c B->Lo d j l c S=(m,p)->
  ∃i f,er d j n s=(i,f)/\Rel ρ p f/\eR ρ m i
 |[],j,c,S,p,s,[],n,m,h,b,o,e=>by
  cases b;cases e;exact⟨[],s,rfl,h,rfl⟩
 |[],_,_,_,_,_,_::_,_,_,_,b,_,_=>by cases b
 |_::_,_,_,_,_,_,[],_,_,_,b,_,_=>by cases b
 |v::l,j,c,S,p,s,a::B,n,m,h,b,o,e=>by
  simp only[mo]at b
  split at b
  ·rename_i r g;obtain⟨Q,K,rfl⟩:=ak.1 b;have H:=o 0 a rfl;cases v with
   |d=>
    cases g;simp only[Lo]at e;generalize C:Lo d (j+1) l (c+1) S=q at e;obtain⟨ys,N⟩:=q;cases e;obtain⟨i,f,A,w,t⟩:=xu h K o.tail C;exact⟨.d a::i,f,by simp only[er,A],w,_,_,rfl,⟨a,H,rfl⟩,t⟩
   |row k P deep app fz=>
    cases a with
    |list G F es=>
     simp only[Ag]at g
     split at g
     ·rename_i L;obtain⟨rfl,rfl⟩:=L;cases g;simp only[Lo]at e;generalize C:Lo d (j+1) l (c+1) _=q at e;obtain⟨ys,N⟩:=q;cases e;obtain⟨i,f,A,w,t⟩:=xu (h.newRow (um d j) (x:=⟨.v c,G,F,deep,app,fz⟩) (y:=⟨es,G,F,deep,app,fz⟩) ⟨es,H,rfl⟩) K o.tail C;exact⟨.ref (um d j)::i,f,by simp only[er,A],w,_,_,rfl,rfl,t⟩
     ·cases g
    |_=>cases g
  ·cases b
def xV:SS->M SC->M SA->Nat->u SS
 |S,[],_,_=>Z S
 |S,.ptr b 0::cs,.box l::outs,c=>match Lo (b+500) 0 l c S with
  |(xs,a)=>xV (a.gk b xs) cs outs (c+l.length)
 |S,.ptr _ _::_,_,_=>O
 |S,_::cs,outs,c=>xV S cs outs c
def aaU(d:Nat):Nat->M SA->Nat->SS->u (M (SB ⊕ M SB)×SS)
 |_,[],_,S=>Z ([],S)
 |q,.val a l::rs,c,S=>match Lo d (30 * q) l c S with
  |(xs,b)=>match aaU d (q+1) rs (c+l.length) b with
   |some (ms,S2)=>if a=I then Z (.inr xs::ms,S2) else match xs with
    |[x]=>Z (.inl x::ms,S2)
    |_=>O
   |none=>O
 |_,.box _::_,_,_=>O
theorem gY{a:SA}{as:M SA}{c:M D}{d:M A}(h:gN (a::as) c=Z d):∃r b,lR a (c.take a.n)=Z r/\gN as (c.drop a.n)=Z b/\d=r::b:=by
 simp only[gN]at h
 split at h
 ·rename_i r e;obtain⟨b,f,rfl⟩:=ak.1 h;exact⟨r,b,e,f,rfl⟩
 ·cases h
theorem QK{d:Nat}:∀{l:M SA} {q c:Nat} {S k:SS} {s:St} {e:M D} {f:M A} {g:M (SB ⊕ M SB)},Rel ρ S s->gN l e=Z f->Loc ρ c e->aaU d q l c S=Z (g,k)->
  ∃j t,il d q f s=(j,t)/\Rel ρ k t/\uw ρ g j
 |[],q,c,S,k,s,e,f,g,h,i,n,b=>by
  cases e with
  |nil=>
   cases i;cases b;exact⟨[],s,rfl,h,rfl⟩
  |cons a e=>cases i
 | .box _::_,_,_,_,_,_,_,_,_,_,_,_,b=>by cases b
 | .val Q l::as,q,c,S,k,s,e,f,g,h,i,n,b=>by
  obtain⟨r,X,w,L,rfl⟩:=gY i;simp only[lR]at w;obtain⟨T,K,rfl⟩:=ak.1 w;simp only[aaU]at b;generalize H:Lo d (30 * q) l c S=p at b;obtain⟨R,W⟩:=p;simp only at b
  obtain⟨j,V,y,x,o⟩:=xu h K (n.take _) H
  split at b
  ·rename_i F S2 G;obtain⟨v,C,v1,v2,v3⟩:=QK x L (n.drop _) G;refine⟨_,C,by simp only[il,y,v1];rfl,?_⟩
   split at b
   ·rename_i m;cases b;subst m;exact⟨v2,j,v,rfl,o,v3⟩
   ·rename_i m
    split at b
    ·cases b;obtain⟨P,N,rfl,B,U⟩:=o;have:Q=J:=by simpa using m
     subst this;exact⟨v2,P,v,rfl,B,v3⟩
    ·cases b
  ·cases b
theorem Bf:∀{f:M SC} {e:M C} {l:M SA} {c:Nat} {S j:SS} {s:St} {g:M D} {outs:M A},Rel ρ S s->OO f e->gN l g=Z outs->Loc ρ c g->xV S f l c=Z j->Rel ρ j (l_ s e outs)
 |[],e,l,c,S,j,s,g,outs,h,m,k,i,d=>by
  simp only[OO]at m;subst m;cases d;exact h
 |x::f,_,l,c,S,j,s,g,outs,h,⟨v,e,B,K,o⟩,k,i,d=>by
  subst B;rcases K with ⟨b,rfl,rfl⟩|⟨n1,n2⟩
  ·cases l with
   |nil=>cases d
   |cons a l=>
    cases a with
    |val U l=>cases d
    |box y=>
     obtain⟨r,W,n,H,rfl⟩:=gY k;simp only[lR]at n;obtain⟨Q,G,rfl⟩:=ak.1 n;simp only[xV]at d;generalize F:Lo (b+500) 0 y c S=p at d;obtain⟨P,V⟩:=p;simp only at d
     obtain⟨T,R,w,t,q⟩:=xu h G (i.take _) F;simp only[l_,w];exact Bf (t.gk b q) o H (i.drop _) d
  ·have N:xV S (x::f) l c=xV S f l c:=by
    cases x<;>first|rfl|exact absurd rfl (n1 _ _)
   have L:l_ s (v::e) outs=l_ s e outs:=by
    cases v<;>first|rfl|exact absurd rfl (n2 _ _)
   rw[N]at d;rw[L];exact Bf h o k i d
def Ad(S:SS):M Nat->SS
 |[]=>S
 |r::rs=>Ad (S.cQ r) rs
def xj(S:SS):M Nat->SS
 |[]=>S
 |b::a=>xj {S with bx:=ru S.bx b } a
theorem yt:∀{rs:M Nat} {S:SS} {s:St},Rel ρ S s->Rel ρ (Ad S rs) (fY s rs)
 |[],_,_,h=>h
 |r::rs,_,_,h=>yt (rs:=rs) (h.cQ r)
theorem wP:∀{bs:M Nat} {S:SS} {s:St},Rel ρ S s->Rel ρ (xj S bs) (fW s bs)
 |[],_,_,h=>h
 |b::bs,S,s,h=>by
  refine wP (bs:=bs) (S:={S with bx:=ru S.bx b }) (s:={s with bx:=ru s.bx b }) ⟨h.sl,λe c a=>?_,h.rw⟩;simp only[fg]at a ⊢
  split at a
  ·cases a
  ·rename_i d;rw[if_neg d];exact h.bx e c a
end
end
section
def H9:Nat->M Fh->Bool×M SE
 |_,[]=>(I,[])
 |c,.d::l=>match H9 (c+1) l with
  |(b,pl)=>(b,.v c::pl)
 |c,.row _ _ deep _ _::l=>match H9 (c+1) l with
  |(b,pl)=>(deep && b,pl)
def Kq:Nat->M SA->Bool×M SE
 |_,[]=>(I,[])
 |c,a::as=>match H9 c a.l with
  |(b,pl)=>match Kq (c+a.n) as with
   |(e,d)=>(b && e,pl++d)
def Jv:M SA->Bool
 |[]=>I
 | .val _ l::as=>gV l.length 30 && Jv as
 | .box _::_=>J
def SA.anC:SA->Bool
 | .box _=>I
 |_=>J
def aa1(hint:M Nat)(d:Nat)(a:M Nat)(b:Bool)(pl:M SE):Bs×Bool:=
 if a=[] then ([],J) else if b=J then ([],I) else match pl with
  |[]=>([],J)
  |pl=>if hint.contains (1000 * d+pl.length) then ([(.LJ,pl)],I) else ([(.pl,pl)],J)
def aed:M (SB ⊕ M SB)->SC
 |[.inl x]=>.b x
 |[.inr xs]=>.agg xs
 |ms=>.rf ms
def QB(l:M C):C:=match l with|[c]=>c|l=>.rf l
def EO(hint:M Nat)(S:SS)(a:M SC)(d:u Nat)(n:Nat)(v:M SA×M SA):u (Bs×SS):=
 if Jv v.1=I then
  match Kq n v.1,Kq (n+tY v.1) v.2 with
  |(e,Qr),(c,tw)=>match aa1 hint (d.getD 0) (yR a) (e && c) (Qr++tw) with
   |(b,shr)=>match (if shr=I then nS S (yR a) else Z S) with
    |some g=>match xV (xj (Ad g (tj S a)) (qI a)) a v.2 (n+tY v.1) with
     |some S2=>match aaU (d.getD 0) 0 v.1 n S2 with
      |some (ms,f)=>Z (b,f.put d ⟨[],aed ms⟩)
      |none=>O
     |none=>O
    |none=>O
 else O
section
variable {ρ iy:M D} {S S':SS} {s:St}
theorem Ch:∀{l:M Fh} {c:Nat} {j:M D} {i:M RV} {b:Bool} {pl:M SE},mo l j=Z i->Loc ρ c j->H9 c l=(b,pl)->∃g,iT ρ pl=Z g/\i.all RV.closed=(b && cD g)
 |[],_,[],_,_,_,e,_,f=>by cases e;cases f;exact⟨[],rfl,rfl⟩
 |[],_,_::_,_,_,_,e,_,_=>by cases e
 |_::_,_,[],_,_,_,e,_,_=>by cases e
 |v::l,c,a::j,i,b,pl,e,o,f=>by
  simp only[mo]at e
  split at e
  ·rename_i r h;obtain⟨B,p,rfl⟩:=ak.1 e;have w:nth ρ c=Z a:=o 0 a rfl;cases v with
   |d=>
    cases h;simp only[H9]at f;generalize n:H9 (c+1) l=q at f;obtain⟨t,m⟩:=q;cases f;obtain⟨g,g1,g2⟩:=Ch p o.tail n;refine⟨a::g,by simp only[iT,SE.d,w,g1,aH],?_⟩;rw[bJ,g2,oz];simp only[RV.closed];cases D.plain a<;>cases t<;>simp
   |row k A deep app fz=>
    simp only[H9]at f;generalize n:H9 (c+1) l=q at f;obtain⟨t,m⟩:=q;cases f;obtain⟨g,g1,g2⟩:=Ch p o.tail n;refine⟨g,g1,?_⟩;cases a with
    |list y x es=>
     simp only[Ag]at h
     split at h
     ·cases h;rw[bJ,g2];simp only[RV.closed,gR]
     ·cases h
    |_=>cases h
  ·cases e
theorem H0:∀{l:M SA} {c:Nat} {h:M D} {i:M A} {b:Bool} {pl:M SE},gN l h=Z i->Loc ρ c h->Kq c l=(b,pl)->∃d,iT ρ pl=Z d/\i.all A.closed=(b && cD d)
 |[],_,[],_,_,_,f,_,e=>by cases f;cases e;exact⟨[],rfl,rfl⟩
 |[],_,_::_,_,_,_,f,_,_=>by cases f
 |a::as,c,h,i,b,pl,f,p,e=>by
  obtain⟨r,F,g,y,rfl⟩:=gY f;simp only[Kq]at e;generalize v:H9 c a.l=q at e;obtain⟨w,Qr⟩:=q;simp only at e
  generalize o:Kq (c+a.n) as=q at e;obtain⟨B,tw⟩:=q;cases e;obtain⟨m,g3,g4⟩:=H0 y (p.drop _) o;have:∃d,iT ρ Qr=Z d/\A.closed r=(w && cD d):=by
   cases a with
   |val C l=>
    simp only[lR]at g;obtain⟨x,t,rfl⟩:=ak.1 g;obtain⟨d,k,j⟩:=Ch t (p.take _) v;exact⟨d,k,j⟩
   |box l=>
    simp only[lR]at g;obtain⟨x,t,rfl⟩:=ak.1 g;obtain⟨d,k,j⟩:=Ch t (p.take _) v;exact⟨d,k,j⟩
  obtain⟨d,g1,g2⟩:=this;refine⟨d++m,qq g1 g3,?_⟩;rw[bJ,g2,g4,xN];cases w<;>cases B<;>simp
theorem HA:∀{l:M SA} {d:M D} {e:M A},gN l d=Z e->Jv l=I->e.all A.short=I
 |[],[],_,b,_=>by cases b;rfl
 |[],_::_,_,b,_=>by cases b
 | .box _::_,_,_,_,h=>by cases h
 | .val o l::as,d,e,b,h=>by
  obtain⟨r,p,f,i,rfl⟩:=gY b;simp only[Jv,af]at h;simp only[lR]at f;obtain⟨g,a,rfl⟩:=ak.1 f;have m:g.length=l.length:=by
   clear h f b i;generalize d.take (SA.val o l).n=c at a
   induction l generalizing c g with
   |nil=>cases c<;>cases a;rfl
   |cons v l k=>
    cases c with
    |nil=>cases a
    |cons x c=>
     simp only[mo]at a
     split at a
     ·obtain⟨ys,j,rfl⟩:=ak.1 a;simp[k _ _ j]
     ·cases a
  rw[bJ,HA i h.2,ed];simp only[A.short,m,h.1]
theorem aa2{hint:M Nat}{d:Nat}{m:M Nat}{b e:Bool}{pl:M SE}{o:Bs}{j q:M D}(a:aa1 hint d m b pl=(o,e))(n:kC ρ o=Z (ρ++q))(l:iT ρ pl=Z j)(h:Rel ρ S s){p:SS}(i:(if e=I then nS S m else Z S)=Z p) :
  Rel ρ p (if (b && cD j)=I then s else eE s m):=by
 unfold aa1 at a
 split at a
 ·rename_i t;subst t;cases a;cases i;split
  ·exact h
  ·exact h
 ·split at a
  ·rename_i w;cases a;subst w;simp only[cI,aC,if_false];exact nT h i
  ·rename_i k;have k:b=I:=by simpa using k
   subst k
   split at a
   ·cases a;cases l;cases i;exact h
   ·split at a
    ·cases a;obtain⟨r,x,g,c,v⟩:=eN n;rw[l]at g;cases g;simp only[aK]at c
     split at c
     ·cases c
     ·rename_i f;have f:cD j=J:=by simpa using f
      rw[f];simp only[fO,aC,if_false];exact nT h i
    ·cases a;obtain⟨r,x,g,c,v⟩:=eN n;rw[l]at g;cases g;simp only[aK]at c
     split at c
     ·rename_i f;rw[f];cases i;exact h
     ·cases c
theorem aaI{b:M (SB ⊕ M SB)}{f:M C}(h:uw ρ b f):lD ρ (aed b) (QB f):=by
 unfold aed;split
 ·obtain⟨c,g,rfl,d,a⟩:=h;simp only[uw]at a;subst a;exact d
 ·obtain⟨i,g,rfl,d,a⟩:=h;simp only[uw]at a;subst a;exact⟨i,rfl,d⟩
 ·rename_i n1 n2;have:QB f=.rf f:=by
   unfold QB;split
   ·rename_i c;cases b with
    |nil=>simp only[uw]at h;cases h
    |cons m b=>
     cases m with
     |inl x=>
      obtain⟨c,g,e,d,a⟩:=h;cases e;cases b with
      |nil=>exact absurd rfl (n1 x)
      |cons m b=>cases m<;>(obtain⟨_,_,e,_⟩:=a;cases e)
     |inr x=>
      obtain⟨c,g,e,d,a⟩:=h;cases e;cases b with
      |nil=>exact absurd rfl (n2 x)
      |cons m b=>cases m<;>(obtain⟨_,_,e,_⟩:=a;cases e)
   ·rfl
  rw[this];exact⟨f,rfl,h⟩
theorem Om{cf:Cf}{mf:Mf}{X:M (Nat×lP)}{G:Gf}(hG:Yn cf X G)(h:Rel ρ S s){W:Gs}(hk:iJ ρ W=Z I){hint:M Nat}{n:Nat}(hn:n=ρ.length){d:u Nat}{f:Nat}{P:M KX}{b:M SC}{es:M SE}{i:Nat}{e:lP}
  (hx:zx S W P=Z b) (ha:EM S b=Z (e.args,es)) (hi:look X i=Z e) (hf:e.f=f) (hd:(kM (tj S b) && kM (qI b) && (tj S b).all (λr=>!(yR b).contains r))=I)
  {o c:M D} {j:Nat} (hw:iT ρ es=Z o) (hg:G i o=Z (j,c)) {v:M SA×M SA} (hv:nth e.res j=Z v) {bs:Bs} (a:EO hint S b d n v=Z (bs,S')) (Y:kC (ρ++c) bs=Z iy) :
  ∃U,ky cf mf s d (.call f P)=Z U/\Rel iy S' U:=by
 obtain⟨JL,as,V,q2,q3,q4,q5,q6,q7⟩:=EN h (wb h hk hx) ha;rw[hw]at V;cases V;obtain⟨MV,r,v',T,R,k,Q⟩:=hG i e hi o j c hg;rw[q3]at T;cases T;rw[hv]at R;cases R;rw[hf]at Q;obtain⟨rs,outs⟩:=r;unfold wq at k
 split at k
 ·rename_i EB t K e2;cases k;unfold EO at a
  split at a
  ·rename_i w;generalize mr:Kq n v.1=p1 at a;generalize oF:Kq (n+tY v.1) v.2=p2 at a;obtain⟨N,Qr⟩:=p1;obtain⟨L,tw⟩:=p2;simp only at a
   generalize x:aa1 hint (d.getD 0) (yR b) (N && L) (Qr++tw)=p3 at a;obtain⟨bs',shr⟩:=p3;simp only at a
   split at a
   ·rename_i S0 C
    split at a
    ·rename_i S2 B
     split at a
     ·rename_i ms S3 y;cases a;have m:Loc (ρ++c) n c:=by rw[hn];exact Loc.new c
      obtain⟨q,t1,t2⟩:=H0 K (m.take _) mr;obtain⟨p,t3,t4⟩:=H0 e2 (m.drop _) oF;obtain⟨τ,RU⟩:=oA Y;subst RU;have g:=aa2 x Y (qq t1 t3) (h.mono c) C;have qL:(N && L && cD (q++p))=(rs.all A.closed && outs.all A.closed):=by
       rw[t2,t4,xN];cases N<;>cases L<;>simp
      rw[qL]at g;have H:=wP (bs:=qI b) (yt (rs:=tj S b) g);have F:=Bf H q7 e2 (m.drop _) B;obtain⟨l,s4,u1,u2,u3⟩:=QK F K (m.take _) y;refine⟨s4.put d (QB l),?_,(u2.put d (qg.nil (aaI u3))).mono τ⟩;simp only[ky,xl,q2,q4,q5,q6,hd,Q,if_true,HA K w,u1];rfl
     ·cases a
    ·cases a
   ·cases a
  ·cases a
 ·cases k
def SA.isVal:SA->Bool
 | .val _ _=>I
 | .box _=>J
theorem C9:∀{l:M SA} {b:M D} {c:M A},gN l b=Z c->l.all SA.isVal=I->c.all A.isVal=I
 |[],b,c,h,_=>by
  cases b with
  |nil=>cases h;rfl
  |cons a b=>cases h
 | .val i l::as,b,c,h,d=>by
  obtain⟨r,j,e,f,rfl⟩:=gY h;simp only[lR]at e;obtain⟨g,_,rfl⟩:=ak.1 e;rw[bJ,af]at d;rw[bJ,C9 f d.2];rfl
 | .box l::as,b,c,h,d=>by simp[SA.isVal]at d
def Jz(S:SS)(a:M SC)(d:u Nat)(n:Nat)(v:M SA×M SA):u (Bs×SS):=
 match d,v with
 |some b,([.box l],[])=>if yR a=[] then (match Lo (b+500) 0 l n S with
  |(xs,S')=>Z ([],(S'.jQ b xs).put (Z b) ⟨[],.ptr b 0⟩)) else O
 |_,_=>O
theorem Tn{cf:Cf}{mf:Mf}{P:M (Nat×lP)}{G:Gf}(hG:Yn cf P G)(h:Rel ρ S s){N:Gs}(hk:iJ ρ N=Z I){n:Nat}(hn:n=ρ.length){d:u Nat}{f:Nat}{A:M KX}{x:M SC}{es:M SE}{i:Nat}{m:lP}
  (hx:zx S N A=Z x) (ha:EM S x=Z (m.args,es)) (hi:look P i=Z m) (hf:m.f=f) (hd:m.args.all SA.isVal=I)
  {q e:M D} {j:Nat} (hw:iT ρ es=Z q) (hg:G i q=Z (j,e)) {v:M SA×M SA} (hv:nth m.res j=Z v) {R:Bs} (k:Jz S x d n v=Z (R,S')) (hb:kC (ρ++e) R=Z iy) :
  ∃H,ky cf mf s d (.cbx f A)=Z H/\Rel iy S' H:=by
 obtain⟨JL,as,L,q2,K,q4,Y,q6,q7⟩:=EN h (wb h hk hx) ha;rw[hw]at L;cases L;obtain⟨MV,r,v',F,C,o,B⟩:=hG i m hi q j e hg;rw[K]at F;cases F;rw[hv]at C;cases C;rw[hf]at B;unfold Jz at k
 split at k
 ·rename_i b l
  split at k
  ·rename_i hl;generalize hq:Lo (b+500) 0 l n S=p at k;obtain⟨JM,S1⟩:=p;cases k;cases hb;unfold wq at o
   split at o
   ·rename_i EB g e1 e2;cases o;obtain⟨r0,t,Q,c,rfl⟩:=gY e1;simp only[lR]at Q;obtain⟨vs,h3,rfl⟩:=ak.1 Q;have W:t=[]:=by
     revert c
     generalize List.drop _ _=a;cases a with
     |nil=>intro c;cases c;rfl
     |cons y a=>intro c;cases c
    subst W;have w:g=[]:=by
     revert e2
     generalize List.drop _ _=a;cases a with
     |nil=>intro c;cases c;rfl
     |cons y a=>intro c;cases c
    subst w;have RI:Loc (ρ++e) n e:=by rw[hn];exact Loc.new e
    obtain⟨jP,X,V,U,T⟩:=xu (h.mono e) h3 ((RI.take _).take _) hq;refine⟨(X.jQ b jP).put (Z b) (.ptr b 0),?_,(U.jQ b T).put (Z b) qg.ptr⟩;simp only[ky,q2,C9 K hd,B,if_true,Y,hl,eE,V]
   ·cases o
  ·cases k
 ·cases k
end
end
section
abbrev SX:=u (u Nat)
def Ry:SX->Ex
 |none=>.norm
 |some O=>.ret
 |some (Z i)=>.exit i
structure SO where
 x:SX
 S:SS
 m:Nat
 deriving DecidableEq
def Fu(o:SO):M SO->Nat×M SO
 |[]=>(0,[o])
 |p::a=>if o=p then (0,p::a) else match Fu o a with
  |(j,b)=>(j+1,p::b)
def oM:M SO->M SO->M Nat×M SO
 |[],acc=>([],acc)
 |o::os,acc=>match Fu o acc with
  |(j,b)=>match oM os b with
   |(c,a)=>(j::c,a)
def LD(f:M Nat)(t:ST):ST:=if f=bW f.length then t else .map f t
def D_(x:SX)(a:Gs)(S:SS):ST×M SO:=match Rh a S with
 |(b,es)=>(.leaf 0 es,[⟨x,b,es.length⟩])
def Va(k:(M SA×M SA)->u (ST×M SO)):M (M SA×M SA)->M SO->u (ST×M SO)
 |[],acc=>Z (.nil,acc)
 |v::a,acc=>match k v with
  |some (t,os)=>match oM os acc with
   |(f,d)=>match Va k a d with
    |some (b,c)=>Z (.cons (LD f t) b,c)
    |none=>O
  |none=>O
def B8(a:Gs):Bs->ST->ST
 |[],t=>t
 |(o,es)::b,t=>.op a o es (B8 a b t)
def Mi:SG:=⟨[(.k (.bool J),I)],.any⟩
def Fits(G:Gf)(t:ST)(outs:M SO)(c:M D)(run:u (Ex×St)):Prop:=
 ∀j a,dY G t 0 c=Z (j,a)->∃o b,nth outs j=Z o/\run=Z (Ry o.x,b)/\a.length=o.m/\Rel a o.S b
theorem Cd(o:SO):∀{l b:M SO} {j:Nat},Fu o l=(j,b)->nth b j=Z o/\∀i x,nth l i=Z x->nth b i=Z x
 |[],b,j,h=>by cases h;exact⟨rfl,λi x a=>by cases a⟩
 |p::c,b,j,h=>by
  simp only[Fu]at h
  split at h
  ·rename_i e;cases h;subst e;exact⟨rfl,λ_ _ a=>a⟩
  ·generalize d:Fu o c=q at h;obtain⟨m,k⟩:=q;cases h;obtain⟨g,f⟩:=Cd o d;refine⟨g,λi x a=>?_⟩;cases i with
   |zero=>exact a
   |succ i=>exact f i x a
theorem py:∀{os a b:M SO} {c:M Nat},oM os a=(c,b)->(∀i o,nth os i=Z o->∃j,nth c i=Z j/\nth b j=Z o)/\∀i x,nth a i=Z x->nth b i=Z x
 |[],a,b,c,h=>by cases h;exact⟨λi o m=>(by cases m),λ_ _ d=>d⟩
 |o::os,a,b,c,h=>by
  simp only[oM]at h;generalize l:Fu o a=q at h;obtain⟨j,t⟩:=q;simp only at h
  generalize e:oM os t=q at h;obtain⟨k,v⟩:=q;cases h;obtain⟨s,r⟩:=Cd o l;obtain⟨n,g⟩:=py e;refine⟨λi p f=>?_,λi x d=>g i x (r i x d)⟩;cases i with
  |zero=>
   cases f;exact⟨j,rfl,g j _ s⟩
  |succ i=>exact n i p f
theorem SY:∀{n i:Nat},i < n->nth (bW n) i=Z i:=by
 intro n i h;rw[fU];simp[h]
theorem AY{a:Type}:∀{l:M a} {i:Nat} {x:a},nth l i=Z x->i < l.length
 |_::_,0,_,_=>by simp
 |_::l,i+1,x,h=>by simpa using AY (l:=l) h
 |[],_,_,h=>by simp[nth]at h
section
variable {G:Gf} {ρ:M D} {run:u (Ex×St)}
theorem Fits.map{t:ST}{outs outs':M SO}{f:M Nat}(h:Fits G t outs ρ run)(l:∀i o,nth outs i=Z o->∃j,nth f i=Z j/\nth outs' j=Z o):Fits G (LD f t) outs' ρ run:=by
 intro j m hd;unfold LD at hd
 split at hd
 ·rename_i p;obtain⟨o,d,g,b,s,r⟩:=h j m hd;obtain⟨n,a,e⟩:=l j o g;have q:=AY a;rw[p,SY q]at a;cases a;exact⟨o,d,e,b,s,r⟩
 ·simp only[dY]at hd
  split at hd
  ·rename_i k c v;obtain⟨w,g,b⟩:=ak.1 hd;simp only[aA]at b;obtain⟨rfl,rfl⟩:=b;obtain⟨o,d,g1,g2,g3,g4⟩:=h k c v;obtain⟨n,a,e⟩:=l k o g1;rw[g]at a;cases a;exact⟨o,d,e,g2,g3,g4⟩
  ·cases hd
theorem Fits.more{t:ST}{outs a:M SO}(h:Fits G t outs ρ run)(d:∀i o,nth outs i=Z o->nth a i=Z o):Fits G t a ρ run:=λj b hd=>by
 obtain⟨o,c,f,e⟩:=h j b hd;exact⟨o,c,d j o f,e⟩
theorem u9{x:SX}{a:Gs}{S:SS}{s:St}{t:ST}{outs:M SO}(h:Rel ρ S s)(e:iJ ρ a=Z I)(b:D_ x a S=(t,outs)):Fits G t outs ρ (Z (Ry x,s)):=by
 intro j f hd;unfold D_ at b;generalize d:Rh a S=q at b;obtain⟨i,es⟩:=q;cases b;simp only[dY]at hd
 split at hd
 ·rename_i g c;cases hd;exact⟨_,s,rfl,rfl,lr c,OW h e d c⟩
 ·cases hd
theorem Cy{gs:Gs}:∀{d:Bs} {t:ST} {ρ:M D} {r:Nat×M D} {b:Bool},iJ ρ gs=Z b->dY G (B8 gs d t) 0 ρ=Z r->∃a,a.length=d.length/\dY G t 0 (ρ++a)=Z r/\(b=I->kC ρ d=Z (ρ++a))
 |[],t,ρ,r,b,c,h=>⟨[],rfl,by rw[aQ];exact h,λ_=>by simp[kC]⟩
 |(o,es)::d,t,ρ,r,b,c,h=>by
  simp only[B8,dY,c]at h;cases b with
  |true=>
   simp only at h
   split at h
   ·rename_i k i
    split at h
    ·rename_i x j;obtain⟨a,f,e,g⟩:=Cy (kT [x] c) h;refine⟨x::a,by simp[f],by simpa using e,λ_=>?_⟩;simp only[kC,i,j]
     simpa using g rfl
    ·cases h
   ·cases h
  |false=>
   simp only at h
   obtain⟨a,f,e,g⟩:=Cy (kT [.bool J] c) h;exact⟨.bool J::a,by simp[f],by simpa using e,λh=>by cases h⟩
theorem Il{o:Cf}{n:Mf}{S:SS}{s:St}(h:Rel ρ S s){d:u Nat}{op:KO}{g:Nat}{w:Bool}{m:Gs}{e:SE}(B:look S.sl g=Z ⟨m,.b (.d e)⟩){b:Bool}(f:iJ ρ (m++[(e,w)])=Z b) :
  vG o n s ⟨d,op,Z (g,w)⟩=if b=I then Cq o n s d op else Z (s.put d .ug):=by
 obtain⟨K,H,F,C⟩:=h.sl g _ B;have app:∀{j:Gs} {c:Bool},iJ ρ j=Z c->iJ ρ (j++[(e,w)])=if c=I then iJ ρ [(e,w)] else Z J:=by
  intro j
  induction j with
  |nil=>intro c i;cases i;rfl
  |cons p j y=>
   intro c i;obtain⟨a,v⟩:=p;simp only[iJ,aq]at i ⊢
   split at i
   ·split at i
    ·rename_i l;rw[if_pos l];exact y i
    ·rename_i l;rw[if_neg l];cases i;rfl
   ·cases i
 rw[app H]at f;cases K with
 |false=>
  simp only[aC,if_false]at f;cases f;simp only[vG,C rfl,aC,if_false]
 |true=>
  simp only[if_true]at f;obtain⟨x,r,q⟩:=F rfl;simp only[iJ,r]at f
  split at f
  ·rename_i t A;cases A;simp only[vG,q]
   split at f
   ·rename_i k;cases f;rw[if_pos k,if_pos rfl]
   ·rename_i k;cases f;rw[if_neg k,if_neg (by simp)]
  ·cases f
theorem OA{c:C}(h:c=.ug):qg ρ Mi c:=⟨J,rfl,λh=>(by cases h),λ_=>h⟩
theorem xt{gs b:Gs}(h:iJ ρ gs=Z I)(c:iJ ρ b=Z I):iJ ρ (gs++b)=Z I:=GM λp a=>by
 rcases aS.1 a with a|a
 ·exact nO h p a
 ·exact nO c p a
theorem Dl:∀{a:Gs},iJ ρ a=Z J->∃p∈a,p.1.d ρ=Z (.bool (!p.2))
 |[],h=>by cases h
 |(g,w)::a,h=>by
  simp only[iJ]at h
  split at h
  ·rename_i b c
   split at h
   ·obtain⟨p,f,e⟩:=Dl h;exact⟨p,bk _ f,e⟩
   ·rename_i i;refine⟨(g,w),aU,?_⟩;rw[c];cases b<;>cases w<;>simp_all
  ·cases h
end
end
section
def Ip(f:Nat)(as:M SA):M (Nat×lP)->u Nat
 |[]=>O
 |(i,a)::l=>if a.f=f/\a.args=as then Z i else Ip f as l
def ER(hint:M Nat)(g:M (Nat×lP))(S:SS)(j:Gs)(n:Nat)(d:u Nat)(op:KO)(k:SS->Nat->u (ST×M SO)):u (ST×M SO):=
 match op with
 | .call f xs=>match zx S j xs with
  |some a=>match EM S a with
   |some (as,es)=>match Ip f as g with
    |some i=>match look g i with
     |some b=>if b.f=f/\b.args=as/\(kM (tj S a) && kM (qI a) && (tj S a).all (λr=>!(yR a).contains r))=I then
       (match Va (λv=>match EO hint S a d n v with
        |some (c,e)=>match k e (n+(tY v.1+tY v.2)+c.length) with
         |some (t,outs)=>Z (B8 [] c t,outs)
         |none=>O
        |none=>O) b.res []with
       |some (h,outs)=>Z (.call i es h,outs)
       |none=>O) else O
     |none=>O
    |none=>O
   |none=>O
  |none=>O
 | .cbx f xs=>match zx S j xs with
  |some a=>match EM S a with
   |some (as,es)=>match Ip f as g with
    |some i=>match look g i with
     |some b=>if b.f=f/\b.args=as/\b.args.all SA.isVal=I then
       (match Va (λv=>match Jz S a d n v with
        |some (c,e)=>match k e (n+(tY v.1+tY v.2)+c.length) with
         |some (t,outs)=>Z (B8 [] c t,outs)
         |none=>O
        |none=>O) b.res []with
       |some (h,outs)=>Z (.call i es h,outs)
       |none=>O) else O
     |none=>O
    |none=>O
   |none=>O
  |none=>O
 |op=>match nF hint S j n d op with
  |some (c,e)=>match k e (n+c.length) with
   |some (t,outs)=>Z (B8 [] c t,outs)
   |none=>O
  |none=>O
def Ma(hint:M Nat)(e:M (Nat×lP))(S:SS)(a:Gs)(n:Nat)(d:u Nat)(op:KO)(k:SS->Nat->u (ST×M SO)):u (ST×M SO):=
 if op.pU=I then (match aba S a n op with
  |some (b,c)=>match k (S.put d ⟨[],c⟩) (n+b.length) with
   |some (t,outs)=>Z (B8 [] b t,outs)
   |none=>O
  |none=>O) else ER hint e S a n d op k
def ach(S:SS)(a:Gs):Bool:=(S.sl.take 3).any λp=>match look S.sl p.1 with
 |some g=>Z' (g.gs=a)
 |none=>J
def full(S:SS)(b:Gs)(a:Bs):Bs:=match a with
 |[]=>if ach S b=I then [] else [(.pl,[])]
 |a=>a
def EH(b c:Gs->u (ST×M SO)):Gs->Gs->u (ST×M SO)
 |[],a=>b a
 |p::d,a=>if p∈a then EH b c d a else match EH b c d (p::a),c ((p.1,!p.2)::a) with
  |some (g,i),Z (e,h)=>match oM h i with
   |(f,outs)=>Z (.gd [p] g (LD f e),outs)
  |_,_=>O
def On(hint:M Nat)(m:M (Nat×lP))(S:SS)(a:Gs)(n:Nat)(i:KI)(k:SS->Gs->Nat->u (ST×M SO)):u (ST×M SO):=
 match i with
 |⟨d,op,O⟩=>Ma hint m S a n d op (λj h=>k j a h)
 |⟨d,op,Z (g,w)⟩=>match look S.sl g with
  |some ⟨f,.b (.d e)⟩=>
   if (f++[(e,w)]).all (λp=>Z' (p∈a))=I then Ma hint m S a n d op (λj h=>k j a h)
   else if (f++[(e,w)]).any (λp=>Z' ((p.1,!p.2)∈a))=I then k (S.put d Mi) a n
   else if op.pU=I then (match aba S ((f++[(e,w)])++a) n op with
    |some (o,c)=>match k (S.put d ⟨f++[(e,w)],c⟩) a (n+(full S (f++[(e,w)]) o).length) with
     |some (t,outs)=>Z (B8 (f++[(e,w)]) (full S (f++[(e,w)]) o) t,outs)
     |none=>O
    |none=>O)
   else EH (λl=>Ma hint m S l n d op (λj h=>k j l h)) (λl=>k (S.put d Mi) l n) (f++[(e,w)]) a
  |some ⟨f,.any⟩=>if f=Mi.gs then k (S.put d Mi) a n else O
  |_=>O
def ES(hint:M Nat)(c:M (Nat×lP))(b:n_):M KI->SS->Gs->Nat->u (ST×M SO)
 |[],S,a,n=>Z (D_ O a (S.eB b))
 |i::is,S,a,n=>On hint c S a n i (λe f d=>ES hint c b is e f d)
section
variable {ρ:M D} {S:SS} {s:St} {G:Gf} {cf:Cf} {mf:Mf} {kR:M (Nat×lP)} {hint:M Nat} {n:Nat} {d:u Nat} {kn:Gs}
theorem mM:∀{l:M SA} {b:M D} {f:M A},gN l b=Z f->b.length=tY l
 |[],[],_,_=>rfl
 |[],_::_,_,h=>by cases h
 |a::as,b,f,h=>by
  obtain⟨r,o,c,k,rfl⟩:=gY h;have j:=mM k;have i:(b.take a.n).length=a.n:=by
   cases a with
   |val m l=>simp only[lR]at c;obtain⟨g,e,_⟩:=ak.1 c;exact mN e
   |box l=>simp only[lR]at c;obtain⟨g,e,_⟩:=ak.1 c;exact mN e
  rw[bT]at j;rw[bj]at i;simp only[tY];omega
theorem KW{v:M SA×M SA}{a:M D}{r:M A×M A}(h:wq v a=Z r):a.length=tY v.1+tY v.2:=by
 unfold wq at h
 split at h
 ·rename_i g outs f e;have c:=mM f;have b:=mM e;rw[bj]at c;rw[bT]at b;omega
 ·cases h
def T6(G:Gf)(t:ST)(j:Nat)(outs:M SO)(ρ:M D)(run:u (Ex×St)):Prop:=
 ∀i a,dY G t j ρ=Z (i,a)->∃o b,nth outs i=Z o/\run=Z (Ry o.x,b)/\a.length=o.m/\Rel a o.S b
theorem Io{k:(M SA×M SA)->u (ST×M SO)}:∀{g:M (M SA×M SA)} {a b:M SO} {c:ST},Va k g a=Z (c,b)->
  (∀i x,nth a i=Z x->nth b i=Z x)/\∀j v,nth g j=Z v->∃t os,k v=Z (t,os)/\∀run ρ,Fits G t os ρ run->T6 G c j b ρ run
 |[],a,b,c,h=>by cases h;exact⟨λ_ _ m=>m,λj v H=>(by cases H)⟩
 |v::g,a,b,c,h=>by
  simp only[Va]at h
  split at h
  ·rename_i t os N;generalize K:oM os a=q at h;obtain⟨f,V⟩:=q;simp only at h
   split at h
   ·rename_i A U P;cases h;obtain⟨T,R⟩:=py K;obtain⟨y,Q⟩:=Io P;refine⟨λi x m=>y i x (R i x m),λj w r=>?_⟩;cases j with
    |zero=>
     cases r;refine⟨t,os,N,λrun ρ p i e hd=>?_⟩;have:=p.map (f:=f) (outs':=b) (λi o L=>by obtain⟨j,F,C⟩:=T i o L;exact⟨j,F,y j o C⟩);exact this i e hd
    |succ j=>
     obtain⟨B,l,g1,g2⟩:=Q j w r;exact⟨B,l,g1,λrun ρ p i e hd=>g2 run ρ p i e hd⟩
   ·cases h
  ·cases h
theorem vX{b:Bs}{t:ST}{outs:M SO}{run:u (Ex×St)}(h:∀a,kC ρ b=Z a->Fits G t outs a run):Fits G (B8 [] b t) outs ρ run:=by
 intro j c hd;obtain⟨g,i,f,e⟩:=Cy (gs:=[]) rfl hd;exact h _ (e rfl) j c f
theorem Mc(K:Yn cf kR G)(h:Rel ρ S s)(p:iJ ρ kn=Z I)(o:n=ρ.length){op:KO}{k:SS->Nat->u (ST×M SO)}{t:ST}{outs:M SO}{run:St->u (Ex×St)}
  (Y:∀m b g t outs,Rel b m g->iJ b kn=Z I->k m b.length=Z (t,outs)->Fits G t outs b (run g)) (a:ER hint kR S kn n d op k=Z (t,outs)) :
  op.pU=J/\Fits G t outs ρ ((ky cf mf s d op).bind run):=by
 unfold ER at a
 split at a
 ·rename_i f xs;refine⟨rfl,?_⟩
  split at a
  ·rename_i cs T
   split at a
   ·rename_i as es ha
    split at a
    ·rename_i i hi
     split at a
     ·rename_i Q y
      split at a
      ·rename_i W;obtain⟨rfl,rfl,hd⟩:=W
       split at a
       ·rename_i ts l X;cases a;obtain⟨_,h2⟩:=Io (G:=G) X;intro j L e;simp only[dY]at e
        split at e
        ·rename_i N U
         split at e
         ·rename_i x w A;obtain⟨as,r,v,w1,q,P,w4⟩:=K i Q y N x w A;obtain⟨t,os,g1,g2⟩:=h2 x v q
          split at g1
          ·rename_i bs m V
           split at g1
           ·rename_i t' R H;cases g1;refine g2 _ (ρ++w) ?_ j L e;refine vX λb c=>?_;obtain⟨g,C,B⟩:=Om (cf:=cf) (mf:=mf) K h p o T ha y rfl hd U A q V c;rw[C];obtain⟨τ,F⟩:=oA c;refine Y m b g _ _ B (by rw[F,bE];exact kT _ p) ?_;rw[sh c,aR,<- o,KW P];exact H
           ·cases g1
          ·cases g1
         ·cases e
        ·cases e
       ·cases a
      ·cases a
     ·cases a
    ·cases a
   ·cases a
  ·cases a
 ·rename_i f xs;refine⟨rfl,?_⟩
  split at a
  ·rename_i cs T
   split at a
   ·rename_i as es ha
    split at a
    ·rename_i i hi
     split at a
     ·rename_i Q y
      split at a
      ·rename_i W;obtain⟨rfl,rfl,hd⟩:=W
       split at a
       ·rename_i ts l X;cases a;obtain⟨_,h2⟩:=Io (G:=G) X;intro j L e;simp only[dY]at e
        split at e
        ·rename_i N U
         split at e
         ·rename_i x w A;obtain⟨as,r,v,w1,q,P,w4⟩:=K i Q y N x w A;obtain⟨t,os,g1,g2⟩:=h2 x v q
          split at g1
          ·rename_i bs m V
           split at g1
           ·rename_i t' R H;cases g1;refine g2 _ (ρ++w) ?_ j L e;refine vX λb c=>?_;obtain⟨g,C,B⟩:=Tn (cf:=cf) (mf:=mf) K h p o T ha y rfl hd U A q V c;rw[C];obtain⟨τ,F⟩:=oA c;refine Y m b g _ _ B (by rw[F,bE];exact kT _ p) ?_;rw[sh c,aR,<- o,KW P];exact H
           ·cases g1
          ·cases g1
         ·cases e
        ·cases e
       ·cases a
      ·cases a
     ·cases a
    ·cases a
   ·cases a
  ·cases a
 ·split at a
  ·rename_i bs m hN
   split at a
   ·rename_i t' l H;cases a;have hp:∀b,kC ρ bs=Z b->op.pU=J/\∃g,ky cf mf s d op=Z g/\Rel b m g:=λb c=>Oq h p o hN c;refine⟨(by cases op<;>first|rfl|cases hN),vX λb c=>?_⟩;obtain⟨_,g,C,B⟩:=hp b c;rw[C];obtain⟨τ,F⟩:=oA c;refine Y m b g _ _ B (by rw[F];exact kT _ p) ?_;rw[sh c,<- o];exact H
   ·cases a
  ·cases a
theorem EK(w:Yn cf kR G)(h:Rel ρ S s)(g:iJ ρ kn=Z I)(f:n=ρ.length){op:KO}{k:SS->Nat->u (ST×M SO)}{t:ST}{outs:M SO}{run:St->u (Ex×St)}
  (m:∀o b j t outs,Rel b o j->iJ b kn=Z I->k o b.length=Z (t,outs)->Fits G t outs b (run j)) (a:Ma hint kR S kn n d op k=Z (t,outs)) :
  Fits G t outs ρ ((Cq cf mf s d op).bind run):=by
 unfold Ma at a
 split at a
 ·rename_i l
  split at a
  ·rename_i H c r
   split at a
   ·rename_i F e C;cases a;refine vX λb i=>?_;obtain⟨v,B,A⟩:=EU h g f r i;obtain⟨q,p⟩:=oA i;simp only[Cq,l,if_true,B,aH,dS];refine m _ b _ _ _ ((p▸h.mono q:Rel b S s).put d (qg.nil A)) (by rw[p];exact kT _ g) ?_;rw[sh i,<- f];exact C
   ·cases a
  ·cases a
 ·rename_i l;obtain⟨y,x⟩:=Mc (mf:=mf) w h g f m a;simp only[Cq,y,aC,if_false];exact x
theorem Ve{i:Gs}{e:Bs}{c:M D}(h:kC ρ (full S i e)=Z c):∃a,c=ρ++a/\∃f j,kC ρ e=Z f/\c=f++j:=by
 obtain⟨a,g⟩:=oA h;refine⟨a,g,?_⟩;cases e with
 |nil=>exact⟨ρ,a,rfl,g⟩
 |cons b e=>exact⟨c,[],h,by simp⟩
theorem Xv(h:Rel ρ S s){c:Gs}(e:ach S c=I):∃b,iJ ρ c=Z b:=by
 obtain⟨p,_,a⟩:=kN.1 e
 split at a
 ·rename_i g f;obtain⟨b,i,_⟩:=h.sl _ g f;exact⟨b,(of_decide_eq_true a)▸i⟩
 ·cases a
theorem Pr{a:Gs}{e c:ST}{outs:M SO}{run:u (Ex×St)}(g:iJ ρ a=Z I->Fits G e outs ρ run)(f:iJ ρ a=Z J->Fits G c outs ρ run):Fits G (.gd a e c) outs ρ run:=by
 intro j b hd;simp only[dY]at hd
 split at hd
 ·rename_i h;exact g h j b hd
 ·rename_i h;exact f h j b hd
 ·cases hd
theorem Vo:∀{a:Gs} {p:SE×Bool} {c:Gs},iJ ρ a=Z I->p.1.d ρ=Z (.bool (!p.2))->iJ ρ (a++p::c)=Z J
 |[],p,c,_,b=>by
  obtain⟨e,w⟩:=p;simp only[ay,iJ]at b ⊢;rw[b];cases w<;>rfl
 |(g,v)::a,p,c,h,b=>by
  have f:=nO h (g,v) (by simp);simp only[aq,iJ]at f h ⊢;rw[f]at h ⊢;simp only[if_true]at h ⊢;exact Vo h b
theorem Bb{v w:Gs->u (ST×M SO)}{run:u (Ex×St)}{full_:Gs}(l:∀h {t:ST} {o:M SO},iJ ρ h=Z I->iJ ρ full_=Z I->v h=Z (t,o)->Fits G t o ρ run)
  (m:∀h {t:ST} {o:M SO},iJ ρ h=Z I->iJ ρ full_=Z J->w h=Z (t,o)->Fits G t o ρ run):∀{gs pre kn:Gs} {t:ST} {outs:M SO},full_=pre++gs->iJ ρ pre=Z I->iJ ρ kn=Z I->EH v w gs kn=Z (t,outs)->Fits G t outs ρ run
 |[],pre,kn,t,outs,j,e,c,a=>l kn c (by rw[j,aQ];exact e) a
 |p::C,pre,kn,t,outs,j,e,c,a=>by
  have g:full_=(pre++[p])++C:=by rw[j];simp
  simp only[EH]at a
  split at a
  ·rename_i K;exact Bb l m g (xt e (GM λq b=>by simp only[bI]at b;subst b;exact nO c _ K)) c a
  ·split at a
   ·rename_i P H N F L hB;generalize b:oM F H=q at a;obtain⟨f,k⟩:=q;cases a;obtain⟨B,A⟩:=py b;refine Pr (λi=>?_) λi=>?_
    ·exact (Bb l m g (xt e i) (xt (gs:=[p]) i c) L).more A
    ·obtain⟨r,x,y⟩:=Dl i;simp only[bI]at x;subst x;exact Fits.map (m _ (xt (gs:=[(r.1,!r.2)]) (GM λq b=>by simp only[bI]at b;subst b;exact y) c) (by rw[j];exact Vo e y) hB) B
   ·cases a
theorem Es{a:Gs}{o:PO}{es:M SE}{c:Bs}{t:ST}{r:Nat×M D}(h:dY G (B8 a ((o,es)::c) t) 0 ρ=Z r):∃b,iJ ρ a=Z b:=by
 simp only[B8,dY]at h
 split at h
 ·exact⟨_,‹_›⟩
 ·exact⟨_,‹_›⟩
 ·cases h
theorem ac5(e:Rel ρ S s){a:Gs}{c:Bs}{t:ST}{r:Nat×M D}(h:dY G (B8 a (full S a c) t) 0 ρ=Z r):∃b,iJ ρ a=Z b:=by
 cases c with
 |nil=>
  simp only[full]at h
  split at h
  ·exact Xv e ‹_›
  ·exact Es h
 |cons b c=>exact Es h
theorem acX{g:Nat}{w:Bool}{op:KO}(h:Rel ρ S s)(m:iJ ρ kn=Z I){f:Gs}{e:SE}(l:look S.sl g=Z ⟨f,.b (.d e)⟩)(o:(f++[(e,w)]).any (λp=>Z' ((p.1,!p.2)∈kn))=I) :
  vG cf mf s ⟨d,op,Z (g,w)⟩=Z (s.put d .ug):=by
 obtain⟨v,t,r,q⟩:=h.sl g _ l;cases v with
 |false=>simp only[vG,q rfl]
 |true=>
  obtain⟨p,a,k⟩:=kN.1 o;have c:=nO m _ (of_decide_eq_true k);rcases aS.1 a with a|a
  ·have:=nO t p a;simp only at c
   rw[c]at this;exact absurd this (by cases p.2<;>simp)
  ·simp only[bI]at a;subst a;obtain⟨x,i,j⟩:=r rfl;simp only at c
   rw[c]at i;cases i;simp only[vG,j];rw[if_neg (by cases w<;>simp)]
theorem CC(F:Yn cf kR G)(h:Rel ρ S s)(l:iJ ρ kn=Z I){i:KI}{k:SS->Gs->Nat->u (ST×M SO)}{t:ST}{outs:M SO}{run:St->u (Ex×St)}
  (cont:∀{y:Gs} (P:SS) (r:M D) (L:St) (t:ST) (outs:M SO),Rel r P L->iJ r y=Z I->k P y r.length=Z (t,outs)->Fits G t outs r (run L))
  (a:On hint kR S kn ρ.length i k=Z (t,outs)):Fits G t outs ρ ((vG cf mf s i).bind run):=by
 obtain⟨d,op,gd⟩:=i;cases gd with
 |none=>
  simp only[On]at a;exact EK F h l rfl (run:=run) cont a
 |some gw=>
  obtain⟨g,w⟩:=gw;simp only[On]at a
  split at a
  ·rename_i q e o
   split at a
   ·rename_i Q;have f:iJ ρ (q++[(e,w)])=Z I:=Ng l Q;rw[Il h o f,if_pos rfl];exact EK F h l rfl (run:=run) cont a
   ·split at a
    ·rename_i U;rw[acX h l o U,dS];exact cont _ _ _ _ _ (h.put d (OA rfl)) l a
    ·split at a
     ·rename_i R
      split at a
      ·rename_i bs c V
       split at a
       ·rename_i t' A C;cases a;intro j K hd;obtain⟨b,f⟩:=ac5 h hd;obtain⟨m,x,N,H⟩:=Cy f hd;rw[Il h o f];have p:ρ.length+(full S (q++[(e,w)]) bs).length=(ρ++m).length:=by rw[aR,x]
        rw[p]at C;cases b with
        |true=>
         obtain⟨_,_,TY,TE,g1,g2⟩:=Ve (H rfl);obtain⟨v,Y,X⟩:=EU h (xt f l) rfl V g1;simp only[Cq,R,if_true,Y,aH,dS];refine cont _ _ _ _ _ ((h.mono m).put d ?_) (kT m l) C j K N;exact⟨I,kT m f,λ_=>g2▸X.mono TE,λh=>(by cases h)⟩
        |false=>
         rw[if_neg (by simp),dS];refine cont _ _ _ _ _ ((h.mono m).put d ?_) (kT m l) C j K N;exact⟨J,kT m f,λh=>(by cases h),λ_=>rfl⟩
       ·cases a
      ·cases a
     ·refine Bb (full_:=q++[(e,w)]) (λy _ _ B f W=>?_) (λy _ _ B f hB=>?_) (pre:=[]) rfl rfl l a
      ·rw[Il h o f,if_pos rfl];exact EK F h B rfl (run:=run) cont W
      ·rw[Il h o f,if_neg (by simp),dS];exact cont _ _ _ _ _ (h.put d (OA rfl)) B hB
  ·rename_i q o
   split at a
   ·rename_i f;obtain⟨b,x,_,H⟩:=h.sl g _ o;rw[f]at x;cases x;have T:vG cf mf s ⟨d,op,Z (g,w)⟩=Z (s.put d .ug):=by simp only[vG,H rfl]
    rw[T,dS];exact cont _ _ _ _ _ (h.put d (OA rfl)) l a
   ·cases a
  ·cases a
theorem HD(j:Yn cf kR G){a:n_}:∀{b:M KI} {S:SS} {kn:Gs} {ρ:M D} {s:St} {t:ST} {outs:M SO},Rel ρ S s->iJ ρ kn=Z I->ES hint kR a b S kn ρ.length=Z (t,outs)->
  Fits G t outs ρ (nrm a (mQ cf mf b s))
 |[],S,kn,ρ,s,t,outs,h,f,c=>by
  simp only[ES,aa]at c;exact u9 (h.eB a) f c
 |i::b,S,kn,ρ,s,t,outs,h,f,c=>by
  have g:nrm a (mQ cf mf (i::b) s)=(vG cf mf s i).bind λe=>nrm a (mQ cf mf b e):=by
   simp only[mQ];cases vG cf mf s i<;>rfl
  rw[g];simp only[ES]at c;exact CC j h f (run:=λe=>nrm a (mQ cf mf b e)) (λp o e t outs m l k=>HD j m l k) c
end
end
section
def KO.S6:KO->M KX
 | .st _ x y=>[x,y]
 | .qx _ _ xs=>xs
 | .Wt _ _ xs=>xs
 | .app _ _ _ x y=>[x,y]
 | .call _ xs=>xs
 | .YF _ x _=>[x]
 | .cut _ x _ _=>[x]
 | .Gn _ x _=>[x]
 | .jn x _=>[x]
 | .zt _ x _ a=>[x,a]
 |_=>[]
def rT(s:St):C->M Nat
 | .ptr b _=>b::rowsOf ((look s.bx b).getD [])
 | .oO r _ _ _=>[r]
 |c=>rowsOf c.cells
theorem rU(s:St)(c:C):∀q∈rowsOf c.cells,q∈rT s c:=by
 intro q h;cases c<;>first|exact h|(simp[C.cells,rowsOf]at h)
theorem sY(s:St)(c:C):∀q∈rowsOf [c],q∈rT s c:=by
 intro q h;cases c<;>first|exact h|(simp[rowsOf]at h)
theorem vO(s:St)(f:C->M Nat)(b:∀c,∀q∈f c,q∈rT s c)(g:M C->M Nat)(e:g []=[])(d:∀c i,g (c::i)=f c++g i):∀(a:M KX),∀q∈g (a.map (fX s)),∃x∈a,q∈rT s (fX s x)
 |[],q,h=>by simp[e]at h
 |x::a,q,h=>by
  rw[aW,d]at h;rcases aS.1 h with h|h
  ·exact⟨x,by simp,b _ q h⟩
  ·obtain⟨y,j,k⟩:=vO s f b g e d a q h;exact⟨y,by simp[j],k⟩
theorem Tu(s:St)(d:u Nat)(op:KO):∀q∈eY s d op,q∈d.toList\/∃x∈op.S6,q∈rT s (fX s x):=by
 intro q h;cases op with
 |st n x y=>
  simp only[eY]at h
  split at h
  ·rename_i b o g;simp only[bI]at h;exact .inr ⟨x,by simp[KO.S6],by rw[g];simp[rT,h]⟩
  ·rename_i r k i o g;rcases aP.1 h with h|h
   ·exact .inr ⟨x,by simp[KO.S6],by rw[g];simp[rT,h]⟩
   ·exact .inr ⟨y,by simp[KO.S6],rU s _ q h⟩
  ·cases h
 |qx k j e=>
  simp only[eY]at h;rcases aS.1 h with h|h
  ·exact .inl h
  ·exact .inr (vO s (λc=>rowsOf c.cells) (rU s) tG rfl (λ_ _=>rfl) e q h)
 |Wt k j e=>
  simp only[eY]at h;rcases aS.1 h with h|h
  ·exact .inl h
  ·exact .inr (vO s (λc=>rowsOf c.cells) (rU s) tG rfl (λ_ _=>rfl) e q h)
 |zt ins x i a=>
  simp only[eY]at h;rcases aS.1 h with h|h
  ·rcases aS.1 h with h|h
   ·exact .inl h
   ·exact .inr ⟨x,by simp[KO.S6],sY s _ q h⟩
  ·exact .inr ⟨a,by simp[KO.S6],sY s _ q h⟩
 |app k m j x y=>
  simp only[eY]at h;rcases aS.1 h with h|h
  ·rcases aS.1 h with h|h
   ·exact .inl h
   ·exact .inr ⟨x,by simp[KO.S6],sY s _ q h⟩
  ·exact .inr ⟨y,by simp[KO.S6],sY s _ q h⟩
 |call f e=>
  simp only[eY,Ce]at h;rcases aS.1 h with h|h
  ·rcases aS.1 h with h|h
   ·refine .inr (vO s (λc=>match c with | .ptr b _=>[b]|_=>[]) (λc q h=>?_) cO rfl (λc l=>by cases c<;>rfl) e q h)
    split at h
    ·simp only[bI]at h;simp[rT,h]
    ·cases h
   ·refine .inr (vO s (qy s) (λc q h=>?_) (dR s) rfl (λc l=>rfl) e q h);unfold qy at h
    split at h
    ·simp only[rT,aP];exact .inr h
    ·cases h
  ·exact .inr (vO s (λc=>rowsOf c.cells) (rU s) ji rfl (λ_ _=>rfl) e q h)
 |YF f x y=>simp only[eY]at h;exact .inr ⟨x,by simp[KO.S6],rU s _ q h⟩
 |cut k x p t=>
  simp only[eY]at h;rcases aS.1 h with h|h
  ·exact .inl h
  ·exact .inr ⟨x,by simp[KO.S6],sY s _ q h⟩
 |Gn k x y=>
  simp only[eY]at h;rcases aS.1 h with h|h
  ·exact .inl h
  ·exact .inr ⟨x,by simp[KO.S6],sY s _ q h⟩
 |jn x y=>
  simp only[eY]at h;rcases aS.1 h with h|h
  ·exact .inl h
  ·exact .inr ⟨x,by simp[KO.S6],sY s _ q h⟩
 |_=>exact .inl h
def RW(S:SS):SC->u (M Nat)
 | .b x=>if x.cell=I then Z (gK [x]) else O
 | .agg a=>if a.all SB.cell=I then Z (gK a) else O
 | .ptr b _=>match look S.bx b with
  |some a=>if a.all SB.cell=I then Z (b::gK a) else O
  |none=>O
 | .oO r _ _ _=>Z [r]
 | .tN _ _=>Z []
 | .rf _=>Z []
 | .any=>O
def ZM(S:SS):KX->u (M Nat)
 | .s d=>match look S.sl d with
  |some g=>if g.gs=Mi.gs then Z [] else RW S g.c
  |none=>O
 |x=>match fZ S [] x with
  |some c=>RW S c
  |none=>O
def D9(S:SS)(a:Gs):KO->u (u Nat)
 | .ld _ x=>match fZ S a x with
  |some (.ptr b _)=>Z (Z b)
  |some (.tN _ _)=>Z O
  |_=>O
 | .Mw _=>O
 |_=>Z O
def NC(S:SS)(c:Gs)(i:KI):u (u Nat):=
 match i.gd with
 |none=>D9 S c i.op
 |some (g,w)=>match look S.sl g with
  |some ⟨a,.b (.d e)⟩=>if (a++[(e,w)]).any (λp=>Z' ((p.1,!p.2)∈c))=I then Z O else D9 S ((a++[(e,w)])++c) i.op
  |some ⟨a,.any⟩=>if a=Mi.gs then Z O else O
  |_=>O
def aak(S:SS)(a:M (M Nat×Nat))(i:KI):Bool:=
 a.all (λp=>!(i.dst ==Z p.2)) && i.op.S6.all λx=>match ZM S x with
  |some l=>a.all λp=>!l.contains p.2
  |none=>a.isEmpty
def SB.x_:SB->Bool
 | .any=>J
 |_=>I
def Rm:M (SB ⊕ M SB)->Bool
 |[]=>I
 | .inl x::xs=>x.x_ && Rm xs
 | .inr l::xs=>l.all SB.x_ && Rm xs
def SC.x_:SC->Bool
 | .b x=>x.x_
 | .agg xs=>xs.all SB.x_
 | .rf xs=>Rm xs
 | .any=>J
 |_=>I
def acO(a:n_)(S:SS):Bool:=
 a.s.all (λd=>match look S.sl d with
  |some g=>g.c.x_ ||decide (g.gs=Mi.gs)
  |none=>J) && a.b.all (λb=>match look S.bx b with
  |some e=>e.all SB.x_
  |none=>J) && a.r.all λr=>(look S.rw r).isSome
def zu(hint:M Nat)(d:M (Nat×lP))(g:n_):KT->M (M Nat×Nat)->SS->Gs->Nat->u (ST×M SO)
 | .nil,_,S,c,n=>Z (D_ O c (S.eB g))
 | .alt ⟨j,_,_,_,i⟩ is r,a,S,c,n=>
  if aak S (kt j a) i=I then (match On hint d S c n i (λe k h=>
    if (kt j a).all (λp=>(look e.bx p.2).isSome)=I then zu hint d g is (kt j a) e k h else O),zu hint d g r a S c n with
   |some (m,t),Z (l,s)=>match oM s t with
    |(f,outs)=>if outs.all (λo=>acO g o.S)=I then Z (.both m (LD f l),outs) else O
   |_,_=>O) else O
 | .op ⟨j,q,w,v,i⟩ is,a,S,c,n=>
  if q=I then (if i.op.pU=I then (match NC S c i with
   |some b=>On hint d S c n i (λe k h=>zu hint d g is (p7 v a b) e k h)
   |none=>O) else O)
  else if aak S (kt j a) i=I then On hint d S c n i (λe k h=>
   if (kt j a).all (λp=>(look e.bx p.2).isSome)=I then zu hint d g is (kt j a) e k h else O) else O
section
variable {ρ:M D} {S:SS} {s:St} {G:Gf} {cf:Cf} {mf:Mf} {kR:M (Nat×lP)} {hint:M Nat} {n:Nat} {d:u Nat} {kn:Gs}
theorem PI(h:Rel ρ S s){c:SC}{v:C}{l:M Nat}(f:lD ρ c v)(a:RW S c=Z l):∀q∈rT s v,q∈l:=by
 intro q g;cases c with
 |b x=>
  simp only[RW]at a
  split at a
  ·rename_i j;cases a;cases x with
   |d e=>obtain⟨y,_,rfl⟩:=f;simp[rT,C.cells,rowsOf]at g
   |nil k F=>simp only[lD,kI]at f;subst f;simp[rT,C.cells,rowsOf]at g
   |ref r=>simp only[lD,kI]at f;subst f;simpa [rT,C.cells,rowsOf,gK] using g
   |any=>cases j
  ·cases a
 |agg t=>
  simp only[RW]at a
  split at a
  ·rename_i j;cases a;obtain⟨w,rfl,p⟩:=f;simp only[rT,C.cells]at g
   rwa [nq p j]at g
  ·cases a
 |rf t=>obtain⟨w,rfl,p⟩:=f;simp[rT,C.cells,rowsOf]at g
 |ptr b o=>
  simp only[lD]at f;subst f;simp only[RW]at a
  split at a
  ·rename_i t A
   split at a
   ·rename_i j;cases a;obtain⟨w,p,B⟩:=h.bx b t A;simp only[rT,p,dB]at g
    rwa [nq B j]at g
   ·cases a
  ·cases a
 |oO r k i o=>
  obtain⟨m,_,rfl⟩:=f;cases a;exact g
 |tN i o=>
  obtain⟨x,w,_,_,rfl⟩:=f;simp[rT,C.cells,rowsOf]at g
 |any=>cases a
theorem ZN(h:Rel ρ S s){x:KX}{l:M Nat}(a:ZM S x=Z l):∀q∈rT s (fX s x),q∈l:=by
 cases x with
 |s d=>
  simp only[ZM]at a
  split at a
  ·rename_i g m;obtain⟨b,i,p,f⟩:=h.sl d g m
   split at a
   ·rename_i j;rw[j]at i;cases i;intro q e;simp only[fX,f rfl,rT,C.cells,rowsOf]at e;cases e
   ·cases b with
    |true=>exact PI h (p rfl) a
    |false=>
     intro q e;simp only[fX,f rfl,rT,C.cells,rowsOf]at e;cases e
  ·cases a
 |k c=>
  simp only[ZM]at a
  split at a
  ·rename_i r o;exact PI h (cH h (gs:=[]) rfl o) a
  ·cases a
theorem Qi(h:Rel ρ S s){e:M (M Nat×Nat)}{i:KI}(f:aak S e i=I):∀p∈e,(!(eY s i.dst i.op).contains p.2)=I/\(!(i.dst ==Z p.2))=I:=by
 intro p c;simp only[aak,af,bg]at f;obtain⟨j,v⟩:=f;refine⟨?_,j p c⟩;rw[bY,eg];intro q;rcases Tu s i.dst i.op p.2 (by simpa using q) with hd|⟨x,k,m⟩
 ·have:=j p c;cases g:i.dst with
  |none=>rw[g]at hd;simp at hd
  |some a=>rw[g]at hd this;simp at hd;simp[hd]at this
 ·have:=v x k
  split at this
  ·rename_i l o;have t:=bg.1 this p c;have r:=ZN h o _ m;simp[r]at t
  ·cases e with
   |nil=>cases c
   |cons a b=>cases this
theorem SJ(h:Rel ρ S s){g:Gs}(f:iJ ρ g=Z I){op:KO}{b:u Nat}(a:D9 S g op=Z b):qw s op=Z b:=by
 cases op with
 |ld n x=>
  simp only[D9]at a
  split at a
  ·rename_i k o c;cases a;have:=cH h f c;simp only[lD]at this;simp only[qw,this]
  ·rename_i i o c;cases a;obtain⟨x,j,_,_,e⟩:=cH h f c;simp only[qw,e]
  ·cases a
 |Mw x=>cases a
 |_=>exact a
theorem Xe(h:Rel ρ S s)(B:iJ ρ kn=Z I){kp:n_}{j:Nat}{al dn:M Nat}{i:KI}{is:KT}{tk:M (M Nat×Nat)}{b:u Nat}(a:i.op.pU=I)(f:NC S kn i=Z b) :
  ∃k,(∀p∈k,p∈p7 dn tk b)/\gQ cf mf kp (.op ⟨j,I,al,dn,i⟩ is) tk s=(vG cf mf s i).bind (gQ cf mf kp is k):=by
 have r:∀p∈tk,p∈p7 dn tk b:=by
  intro p a;unfold p7;split
  ·exact bk _ a
  ·exact a
 have l:∀{gs:Gs},iJ ρ gs=Z I->D9 S gs i.op=Z b->(match jm s i.op,qw s i.op with
   |some c,Z b=>gQ cf mf kp is (p7 dn tk b) (s.put i.dst c)
   |_,_=>O)=(Cq cf mf s i.dst i.op).bind (gQ cf mf kp is (p7 dn tk b)):=by
  intro gs y m;rw[SJ h y m];simp only[Cq,a,if_true];cases jm s i.op<;>rfl
 obtain⟨d,op,gd⟩:=i;cases gd with
 |none=>
  refine⟨_,λp a=>a,?_⟩;simp only[gQ,if_true,vG];exact l B f
 |some gw=>
  obtain⟨g,w⟩:=gw;simp only[NC]at f;simp only[gQ,if_true,vG];cases o:s.get g with
  |d x=>
   cases x with
   |bool t=>
    simp only
    by_cases K:t=w
    ·subst K;simp only[if_true];refine⟨_,λp a=>a,?_⟩
     split at f
     ·rename_i N e m;obtain⟨L,A,U,C⟩:=h.sl g _ m;cases L with
      |false=>rw[C rfl]at o;cases o
      |true=>
       obtain⟨x,Q,H⟩:=U rfl;rw[o]at H;cases H;have y:=xt A (GM (gs:=[(e,t)]) λq v=>by simp only[bI]at v;subst v;exact Q)
       split at f
       ·rename_i T;obtain⟨p,a,v⟩:=kN.1 T;have P:=nO y p a;have F:=nO B _ (of_decide_eq_true v);simp only[P]at F;exact absurd F (by cases p.2<;>simp)
       ·exact l (xt y B) f
     ·rename_i N m
      split at f
      ·rename_i R;obtain⟨L,A,_,C⟩:=h.sl g _ m;rw[R]at A;cases A;rw[C rfl]at o;cases o
      ·cases f
     ·cases f
    ·simp only[if_neg K,dS];exact⟨tk,r,rfl⟩
   |_=>exact⟨tk,r,rfl⟩
  |ug=>simp only[dS];exact⟨tk,r,rfl⟩
  |_=>exact⟨tk,r,rfl⟩
theorem wc{j:Nat}{a b:M (M Nat×Nat)}(h:∀p∈a,p∈b):∀p∈kt j a,p∈kt j b:=λp c=>by
 obtain⟨f,e⟩:=List.mem_filter.1 c;exact List.mem_filter.2 ⟨h p f,e⟩
theorem Tt{e:M Nat}{b:u Nat}{c f:M (M Nat×Nat)}(h:∀p∈c,p∈f):∀p∈p7 e c b,p∈p7 e f b:=λp a=>by
 cases b with
 |none=>exact h p a
 |some b=>
  rcases aP.1 a with a|a
  ·exact a▸aU
  ·exact bk _ (h p a)
theorem Qg{a:Type}:∀{l:M a} {i:Nat} {x:a},nth l i=Z x->x∈l
 |y::l,0,x,h=>by cases h;exact aU
 |y::l,i+1,x,h=>bk _ (Qg (l:=l) h)
theorem kI.x_{x:SB}{c g:C}(hd:x.x_=I)(h:kI ρ x c)(b:kI ρ x g):c=g:=by
 cases x with
 |d e=>
  obtain⟨y,i,rfl⟩:=h;obtain⟨a,f,rfl⟩:=b;rw[i]at f;cases f;rfl
 |any=>cases hd
 |_=>simp only[kI]at h b;rw[h,b]
theorem kI.ne{x:SB}{c:C}(hd:x.x_=I)(h:kI ρ x c):c≠.any:=by
 cases x with
 |d e=>obtain⟨y,a,rfl⟩:=h;intro h;cases h
 |any=>cases hd
 |_=>simp only[kI]at h;subst h;intro h;cases h
theorem eR.x_:∀{a:M SB} {e b:M C},a.all SB.x_=I->eR ρ a e->eR ρ a b->e=b
 |[],_,_,_,h,f=>by simp only[eR]at h f;rw[h,f]
 |x::a,_,_,hd,⟨c,e,j,i,g⟩,⟨l,b,k,g1,g2⟩=>by
  simp only[bJ,af]at hd;rw[j,k,i.x_ hd.1 g1,eR.x_ hd.2 g g2]
theorem uw.x_:∀{a:M (SB ⊕ M SB)} {e b:M C},Rm a=I->uw ρ a e->uw ρ a b->e=b
 |[],_,_,_,h,k=>by simp only[uw]at h k;rw[h,k]
 | .inl x::a,_,_,hd,⟨c,e,i,g,f⟩,⟨m,b,j,g1,g2⟩=>by
  simp only[Rm,af]at hd;rw[i,j,g.x_ hd.1 g1,uw.x_ hd.2 f g2]
 | .inr l::a,_,_,hd,⟨c,e,i,g,f⟩,⟨m,b,j,g1,g2⟩=>by
  simp only[Rm,af]at hd;rw[i,j,g.x_ hd.1 g1,uw.x_ hd.2 f g2]
theorem lD.x_{x:SC}{c q:C}(hd:x.x_=I)(h:lD ρ x c)(f:lD ρ x q):c=q:=by
 cases x with
 |b x=>exact kI.x_ hd h f
 |agg t=>
  obtain⟨p,rfl,e⟩:=h;obtain⟨g,rfl,a⟩:=f;rw[e.x_ hd a]
 |rf t=>
  obtain⟨p,rfl,e⟩:=h;obtain⟨g,rfl,a⟩:=f;rw[e.x_ hd a]
 |ptr b o=>simp only[lD]at h f;rw[h,f]
 |oO r k i o=>
  obtain⟨m,e,rfl⟩:=h;obtain⟨w,a,rfl⟩:=f;rw[e]at a;cases a;rfl
 |tN i o=>
  obtain⟨x,p,e,a,rfl⟩:=h;obtain⟨v,g,l,j,rfl⟩:=f;rw[e]at l;cases l;rw[a]at j;cases j;rfl
 |any=>cases hd
theorem lD.ne{x:SC}{c:C}(hd:x.x_=I)(h:lD ρ x c):c≠.any:=by
 cases x with
 |b x=>exact kI.ne hd h
 |agg f=>obtain⟨e,rfl,a⟩:=h;intro h;cases h
 |rf f=>obtain⟨e,rfl,a⟩:=h;intro h;cases h
 |ptr b o=>simp only[lD]at h;subst h;intro h;cases h
 |oO r k i o=>obtain⟨m,a,rfl⟩:=h;intro h;cases h
 |tN i o=>obtain⟨x,e,a,g,rfl⟩:=h;intro h;cases h
 |any=>cases hd
theorem yN{c:Type}(l b:M (Nat×c)):∀(a:M Nat),(∀d∈a,∃x,look l d=Z x/\look b d=Z x)->iV l a=iV b a
 |[],_=>rfl
 |d::a,h=>by
  obtain⟨x,i,g⟩:=h d (by simp);simp only[iV,i,g,yN l b a λe f=>h e (by simp[f])]
theorem V8{a:n_}{s i:St}(h:Rel ρ S (s.eB a))(t:Rel ρ S (i.eB a))(hd:acO a S=I):s.eB a=i.eB a:=by
 simp only[acO,af,bg]at hd;obtain⟨⟨L,K⟩,H⟩:=hd;have Q:iV s.sl a.s=iV i.sl a.s:=by
  refine yN _ _ _ λd k=>?_;have e:=L d k
  split at e
  ·rename_i g w;obtain⟨b,j,o,F⟩:=h.sl d g w;obtain⟨W,m,l,C⟩:=t.sl d g w;rw[j]at m;cases m;have f:(s.eB a).get d=(i.eB a).get d/\(s.eB a).get d≠.any:=by
    cases b with
    |false=>rw[F rfl,C rfl];exact⟨rfl,by intro h;cases h⟩
    |true=>
     have A:g.c.x_=I:=by
      simp only[dr,decide_eq_true_eq]at e;rcases e with e|e
      ·exact e
      ·rw[e]at j;cases j
     exact⟨(o rfl).x_ A (l rfl),(o rfl).ne A⟩
   rw[Dy s a k,Dy i a k]at f;unfold St.get at f;cases q:look s.sl d with
   |none=>rw[q]at f;exact absurd rfl f.2
   |some x=>
    cases B:look i.sl d with
    |none=>rw[q,B]at f;exact absurd f.1 (by intro h;rw[h]at f;exact f.2 rfl)
    |some y=>rw[q,B]at f;exact⟨x,rfl,by rw[show y=x from f.1.symm]⟩
  ·cases e
 have P:iV s.bx a.b=iV i.bx a.b:=by
  refine yN _ _ _ λd k=>?_;have e:=K d k
  split at e
  ·rename_i v p;obtain⟨R,j,o⟩:=h.bx d v p;obtain⟨V,m,l⟩:=t.bx d v p;have:=o.x_ e l;subst this;exact⟨R,(i_ _ _ j).1,(i_ _ _ m).1⟩
  ·cases e
 have N:iV s.rw a.r=iV i.rw a.r:=by
  refine yN _ _ _ λd k=>?_;obtain⟨x,p⟩:=cn.1 (H d k);obtain⟨y,j,es,o,rfl⟩:=h.rw d x p;obtain⟨T,m,U,l,rfl⟩:=t.rw d x p;rw[o]at l;cases l;exact⟨_,(i_ _ _ j).1,(i_ _ _ m).1⟩
 simp only[St.eB,Q,P,N]
theorem Up{c:Type}{a b:u c}{r:c}(h:both a b=Z r):a=Z r:=by
 unfold both at h
 split at h
 ·split at h
  ·cases h;rfl
  ·cases h
 ·cases h
theorem mO{f:n_}:∀{e:KT} {c:M (M Nat×Nat)} {s b:St},gQ cf mf f e c s=Z b->∃g:St,b=g.eB f
 | .nil,c,s,b,h=>by simp only[gQ,aa]at h;exact⟨s,h.symm⟩
 | .op ⟨j,q,l,k,i⟩ e,c,s,b,h=>by
  simp only[gQ]at h
  split at h
  ·split at h
   ·split at h
    ·exact mO h
    ·cases h
   ·split at h
    ·split at h
     ·split at h
      ·exact mO h
      ·cases h
     ·exact mO h
    ·exact mO h
    ·cases h
  ·simp only[ny]at h
   split at h
   ·split at h
    ·exact mO h
    ·cases h
   ·cases h
 | .alt x e r,c,s,b,h=>by
  simp only[gQ]at h;have a:=Up h;simp only[ny]at a
  split at a
  ·split at a
   ·exact mO a
   ·cases a
  ·cases a
theorem vt(B:Yn cf kR G){kp:n_}:∀{is:KT} {tk Q:M (M Nat×Nat)} {S:SS} {kn:Gs} {ρ:M D} {s:St} {t:ST} {outs:M SO},(∀p∈tk,p∈Q)->Rel ρ S s->iJ ρ kn=Z I->zu hint kR kp is Q S kn ρ.length=Z (t,outs)->
  Fits G t outs ρ (ME (gQ cf mf kp is tk s))
 | .nil,tk,Q,S,kn,ρ,s,t,outs,l,h,m,e=>by
  simp only[zu,aa]at e;exact u9 (h.eB kp) m e
 | .alt ⟨j,q,al,dn,i⟩ is r,tk,Q,S,kn,ρ,s,t,outs,l,h,m,e=>by
  simp only[zu]at e
  split at e
  ·rename_i Y
   split at e
   ·rename_i ta oa tb ob hA hB;generalize x:oM ob oa=q at e;obtain⟨f,W⟩:=q;simp only at e
    split at e
    ·rename_i ak4;cases e;obtain⟨q1,q2⟩:=py x;have fA:Fits G ta oa ρ (ME (ny cf mf ⟨j,q,al,dn,i⟩ tk s (gQ cf mf kp is))):=by
      have X:=Qi h Y;have g:ME (ny cf mf ⟨j,q,al,dn,i⟩ tk s (gQ cf mf kp is))=(vG cf mf s i).bind λc=>if (kt j tk).all (λp=>!(eY s i.dst i.op).contains p.2 && (look c.bx p.2).isSome && !(i.dst ==Z p.2))=I then ME (gQ cf mf kp is (kt j tk) c) else O:=by
       simp only[ny];cases vG cf mf s i with
       |none=>rfl
       |some c=>simp only[dS];split<;>rfl
      rw[g];refine CC B h m (run:=λc=>if (kt j tk).all (λp=>!(eY s i.dst i.op).contains p.2 && (look c.bx p.2).isSome && !(i.dst ==Z p.2))=I then ME (gQ cf mf kp is (kt j tk) c) else O) (λS' T c t outs C K k=>?_) hA
      split at k
      ·rename_i A;have hc:(kt j tk).all (λp=>!(eY s i.dst i.op).contains p.2 && (look c.bx p.2).isSome && !(i.dst ==Z p.2))=I:=by
        rw[bg];intro p y;have R:=wc (j:=j) l p y;obtain⟨P,N⟩:=X p R;have h3:=bg.1 A p R;have h4:(look c.bx p.2).isSome=I:=by
         obtain⟨U,w⟩:=cn.1 h3;obtain⟨cs,V,_⟩:=C.bx p.2 U w;rw[V];rfl
        rw[P,N,h4];rfl
       show Fits G t outs T (if _ then _ else _);rw[if_pos hc];exact vt B (wc l) C K k
      ·cases k
     have fB:=vt B l h m hB;intro j' σ hd;simp only[dY]at hd;obtain⟨d1,d2⟩:=Kj hd;obtain⟨o,sA,g1,g2,g3,g4⟩:=fA.more q2 j' σ d1;obtain⟨o',sB,w1,H,w3,w4⟩:=fB.map q1 j' σ d2;rw[g1]at w1;cases w1;have hA':∃a,ny cf mf ⟨j,q,al,dn,i⟩ tk s (gQ cf mf kp is)=Z a:=by
      cases w:ny cf mf ⟨j,q,al,dn,i⟩ tk s (gQ cf mf kp is) with
      |none=>rw[w]at g2;cases g2
      |some a=>exact⟨a,rfl⟩
     have hB':∃b,gQ cf mf kp r tk s=Z b:=by
      cases w:gQ cf mf kp r tk s with
      |none=>rw[w]at H;cases H
      |some a=>exact⟨a,rfl⟩
     obtain⟨a,A⟩:=hA';obtain⟨b,L⟩:=hB';have ka:∃s0:St,a=s0.eB kp:=by
      have F:=A;simp only[ny]at F
      split at F
      ·split at F
       ·exact mO F
       ·cases F
      ·cases F
     obtain⟨a0,rfl⟩:=ka;obtain⟨b0,rfl⟩:=mO L;rw[A]at g2;rw[L]at H;simp only[ME,aa,aA]at g2 H;obtain⟨ex,rfl⟩:=g2;obtain⟨_,rfl⟩:=H;have he:=V8 g4 w4 (bg.1 ak4 o (Qg g1));refine⟨o,_,g1,?_,g3,g4⟩;simp only[gQ,A,L,both,he,if_true,ME,ex]
    ·cases e
   ·cases e
  ·cases e
 | .op ⟨j,q,al,dn,i⟩ is,tk,Q,S,kn,ρ,s,t,outs,l,h,m,e=>by
  simp only[zu]at e
  split at e
  ·rename_i x;subst x
   split at e
   ·rename_i y
    split at e
    ·rename_i b L;obtain⟨v,P,N⟩:=Xe (cf:=cf) (mf:=mf) (kp:=kp) (j:=j) (al:=al) (dn:=dn) (is:=is) (tk:=tk) h m y L;rw[N];have g:ME ((vG cf mf s i).bind (gQ cf mf kp is v))=(vG cf mf s i).bind λc=>ME (gQ cf mf kp is v c):=by cases vG cf mf s i<;>rfl
     rw[g];exact CC B h m (run:=λc=>ME (gQ cf mf kp is v c)) (λS' T c t outs C K k=>vt B (λp y=>Tt l p (P p y)) C K k) e
    ·cases e
   ·cases e
  ·rename_i x;have x:q=J:=by
    cases q with
    |false=>rfl
    |true=>exact absurd rfl x
   subst x
   split at e
   ·rename_i Y;have X:=Qi h Y;have g:ME (gQ cf mf kp (.op ⟨j,J,al,dn,i⟩ is) tk s)=(vG cf mf s i).bind λc=>if (kt j tk).all (λp=>!(eY s i.dst i.op).contains p.2 && (look c.bx p.2).isSome && !(i.dst ==Z p.2))=I then ME (gQ cf mf kp is (kt j tk) c) else O:=by
     simp only[gQ,ny,aC,if_false];cases vG cf mf s i with
     |none=>rfl
     |some c=>simp only[dS];split<;>rfl
    rw[g];refine CC B h m (run:=λc=>if (kt j tk).all (λp=>!(eY s i.dst i.op).contains p.2 && (look c.bx p.2).isSome && !(i.dst ==Z p.2))=I then ME (gQ cf mf kp is (kt j tk) c) else O) (λS' T c t outs C K k=>?_) e
    split at k
    ·rename_i A;have hc:(kt j tk).all (λp=>!(eY s i.dst i.op).contains p.2 && (look c.bx p.2).isSome && !(i.dst ==Z p.2))=I:=by
      rw[bg];intro p y;have R:=wc (j:=j) l p y;obtain⟨P,N⟩:=X p R;have h3:=bg.1 A p R;have h4:(look c.bx p.2).isSome=I:=by
       obtain⟨U,w⟩:=cn.1 h3;obtain⟨cs,V,_⟩:=C.bx p.2 U w;rw[V];rfl
      rw[P,N,h4];rfl
     show Fits G t outs T (if _ then _ else _);rw[if_pos hc];exact vt B (wc l) C K k
    ·cases k
   ·cases e
end
end
section
def Zj{a:Type}(k:a->u (ST×M SO)):M a->M SO->u (ST×M SO)
 |[],acc=>Z (.nil,acc)
 |v::b,acc=>match k v with
  |some (t,os)=>match oM os acc with
   |(f,e)=>match Zj k b e with
    |some (c,d)=>Z (.cons (LD f t) c,d)
    |none=>O
  |none=>O
def E0:Nat->Nat->M SE
 |_,0=>[]
 |c,m+1=>.v c::E0 (c+1) m
def idO(o:SO):ST×M SO:=(.leaf 0 (E0 0 o.m),[o])
def Ki(id:Nat)(o:SO):SO:=if o.x=Z (Z id) then {o with x:=O } else o
def KB:M SO->M SO->M SO->M Nat×M SO×M SO
 |[],b,outs=>([],b,outs)
 |o::os,b,outs=>if o.x=O then (match Fu o b with
   |(j,c)=>match KB os c outs with
    |(f,r)=>(2 * j::f,r))
  else match Fu o outs with
   |(j,a)=>match KB os b a with
    |(f,r)=>((2 * j+1)::f,r)
def P4(k:SS->Nat->u (ST×M SO)):Nat->Nat->M SO->M SO->u (ST×M SO×M SO)
 |0,_,_,_=>O
 |fuel+1,i,b,outs=>match nth b i with
  |none=>Z (.nil,b,outs)
  |some o=>match k o.S o.m with
   |some (t,os)=>match KB os b outs with
    |(f,d,a)=>match P4 k fuel (i+1) d a with
     |some (c,r)=>Z (.cons (.map f t) c,r)
     |none=>O
   |none=>O
def acM(S:SS):SB->SB
 | .ref r=>match look S.rw r with
  |some x=>.d x.e
  |none=>.any
 | .nil k a=>.d (.k (.nil k a))
 |x=>x
def kn0:Gs:=[(.k (.bool I),I),(.k (.bool J),J)]
def pe(hint:M Nat)(g:M (Nat×lP)):K->SS->Nat->u (ST×M SO)
 | .skip,S,_=>Z (D_ O [] S)
 | .exit id,S,_=>Z (D_ (Z (Z id)) [] S)
 | .ret,S,_=>Z (D_ (Z O) [] S)
 | .QH ops q,S,m=>ES hint g q ops S kn0 m
 | .UK ops q,S,m=>zu hint g q ops [] S kn0 m
 | .seq a b,S,m=>match pe hint g a S m with
  |some (n,p)=>match Zj (λo=>if o.x=O then pe hint g b o.S o.m else Z (idO o)) p []with
   |some (l,outs)=>Z (.seq n l,outs)
   |none=>O
  |none=>O
 | .cond c a b,S,m=>match sD (fZ S [] c),pe hint g a S m,pe hint g b S m with
  |some e,Z (n,p),Z (s,v)=>match oM v p with
   |(f,outs)=>Z (.gd [(e,I)] n (LD f s),outs)
  |_,_,_=>O
 | .block id a,S,m=>match pe hint g a S m with
  |some (t,outs)=>match oM (outs.map (Ki id)) []with
   |(f,h)=>Z (LD f t,h)
  |none=>O
 | .share r a,S,m=>match nS S [r]with
  |some i=>pe hint g a i m
  |none=>O
 | .Ci d a,S,m=>match look S.sl d with
  |some ⟨[],.b (.ref r)⟩=>match look S.rw r with
   |some x=>pe hint g a ((S.setRow r x.share).put (Z d) ⟨[],.b (.d x.e)⟩) m
   |none=>O
  |some ⟨[],.b (.d _)⟩=>pe hint g a S m
  |some ⟨[],.b (.nil k w)⟩=>pe hint g a (S.put (Z d) ⟨[],.b (.d (.k (.nil k w)))⟩) m
  |some ⟨[],.ptr b 0⟩=>match look S.bx b with
   |some j=>match nS S (gK j) with
    |some i=>if j.all SB.cell=I then pe hint g a (i.gk b (j.map (acM S))) m else O
    |none=>O
   |none=>O
  |_=>O
 | .loop a,S,m=>match Rh [] S with
  |(i,es)=>match P4 (pe hint g a) 40 0 [⟨O,i,es.length⟩] []with
   |some (l,_,outs)=>Z (.loop 0 es l,outs)
   |none=>O
section
variable {ρ:M D} {S:SS} {s:St} {G:Gf} {T:Nat->u KF} {mf:Mf} {kR:M (Nat×lP)} {hint:M Nat}
theorem Ph{n:Type}{k:n->u (ST×M SO)}:∀{e:M n} {a b:M SO} {c:ST},Zj k e a=Z (c,b)->
  (∀i x,nth a i=Z x->nth b i=Z x)/\∀j v,nth e j=Z v->∃t os,k v=Z (t,os)/\∀run ρ,Fits G t os ρ run->T6 G c j b ρ run
 |[],a,b,c,h=>by cases h;exact⟨λ_ _ l=>l,λj v F=>(by cases F)⟩
 |v::e,a,b,c,h=>by
  simp only[Zj]at h
  split at h
  ·rename_i t os L;generalize H:oM os a=q at h;obtain⟨f,V⟩:=q;simp only at h
   split at h
   ·rename_i y U N;cases h;obtain⟨R,Q⟩:=py H;obtain⟨r,P⟩:=Ph N;refine⟨λi x l=>r i x (Q i x l),λj w p=>?_⟩;cases j with
    |zero=>
     cases p;refine⟨t,os,L,λrun ρ m i d hd=>?_⟩;have:=m.map (f:=f) (outs':=b) (λi o K=>by obtain⟨j,C,B⟩:=R i o K;exact⟨j,C,r j o B⟩);exact this i d hd
    |succ j=>
     obtain⟨A,g,g1,g2⟩:=P j w p;exact⟨A,g,g1,λrun ρ m i d hd=>g2 run ρ m i d hd⟩
   ·cases h
  ·cases h
theorem Mj:∀{σ σ0:M D},iT (σ0++σ) (E0 σ0.length σ.length)=Z σ
 |[],_=>rfl
 |x::σ,σ0=>by
  have c:SE.d (σ0++x::σ) (.v σ0.length)=Z x:=j8 σ0 x σ;have a:=Mj (σ:=σ) (σ0:=σ0++[x]);rw[aR,bE]at a;simp only[aE,E0,iT,c];have b:iT (σ0++x::σ) (E0 (σ0.length+1) σ.length)=Z σ:=a;rw[b];rfl
theorem adt{o:SO}(a:ρ.length=o.m)(h:Rel ρ o.S s):Fits G (idO o).1 (idO o).2 ρ (Z (Ry o.x,s)):=by
 intro j σ hd;simp only[idO,dY]at hd;have:=Mj (σ:=ρ) (σ0:=[]);simp only[ay,aJ,a]at this;rw[this]at hd;cases hd;exact⟨o,s,rfl,rfl,a,h⟩
theorem Ig:∀{os e outs:M SO} {f:M Nat} {g a:M SO},KB os e outs=(f,g,a)->
  (∀i x,nth e i=Z x->nth g i=Z x)/\(∀i x,nth outs i=Z x->nth a i=Z x)/\
  ∀i o,nth os i=Z o->∃c,nth f i=Z c/\if o.x=O then (∃j,c=2 * j/\nth g j=Z o) else ∃j,c=2 * j+1/\nth a j=Z o
 |[],e,outs,f,g,a,h=>by cases h;exact⟨λ_ _ h=>h,λ_ _ h=>h,λi o C=>(by cases C)⟩
 |o::os,e,outs,f,g,a,h=>by
  simp only[KB]at h
  split at h
  ·rename_i b;generalize t:Fu o e=q at h;obtain⟨j,r⟩:=q;simp only at h
   generalize d:KB os r outs=q at h;obtain⟨F,n,A⟩:=q;cases h;obtain⟨y,w⟩:=Cd o t;obtain⟨m,l,v⟩:=Ig d;refine⟨λi x b=>m i x (w i x b),l,λi p k=>?_⟩;cases i with
   |zero=>cases k;exact⟨2 * j,rfl,by rw[if_pos b];exact⟨j,rfl,m j _ y⟩⟩
   |succ i=>exact v i p k
  ·rename_i b;generalize t:Fu o outs=q at h;obtain⟨j,B⟩:=q;simp only at h
   generalize d:KB os e B=q at h;obtain⟨F,n,A⟩:=q;cases h;obtain⟨y,w⟩:=Cd o t;obtain⟨m,l,v⟩:=Ig d;refine⟨m,λi x b=>l i x (w i x b),λi p k=>?_⟩;cases i with
   |zero=>cases k;exact⟨2 * j+1,rfl,by rw[if_neg b];exact⟨j,rfl,l j _ y⟩⟩
   |succ i=>exact v i p k
theorem LA{k:SS->Nat->u (ST×M SO)}:∀{d i:Nat} {g outs H a:M SO} {n:ST},P4 k d i g outs=Z (n,H,a)->
  (∀j x,nth g j=Z x->nth H j=Z x)/\(∀j x,nth outs j=Z x->nth a j=Z x)/\
  ∀j o,nth H (i+j)=Z o->∃t os f,k o.S o.m=Z (t,os)/\(∀ρ,dY G n j ρ=dY G (.map f t) 0 ρ)/\∀l b,nth os l=Z b->∃c,nth f l=Z c/\if b.x=O then (∃j,c=2 * j/\nth H j=Z b) else ∃j,c=2 * j+1/\nth a j=Z b
 |0,_,_,_,_,_,_,h=>by cases h
 |d+1,i,g,outs,H,a,n,h=>by
  simp only[P4]at h
  split at h
  ·rename_i hn;cases h;refine⟨λ_ _ h=>h,λ_ _ h=>h,λj o F=>?_⟩
   exfalso
   have N:=AY F;have L:∀{l:M SO} {i:Nat},nth l i=O->l.length<=i:=by
    intro l
    induction l with
    |nil=>intro i _;exact cB _
    |cons x l W=>
     intro i P;cases i with
     |zero=>cases P
     |succ i=>have:=W (i:=i) P;simp only[aE];omega
   have:=L hn;omega
  ·rename_i o F
   split at h
   ·rename_i t os hk;generalize Y:KB os g outs=q at h;obtain⟨f,oC,A⟩:=q;simp only at h
    split at h
    ·rename_i R r X;obtain⟨H',O'⟩:=r;cases h;obtain⟨N,L,h3⟩:=Ig Y;obtain⟨K,Q,h6⟩:=LA X;refine⟨λj x e=>K j x (N j x e),λj x e=>Q j x (L j x e),λj p C=>?_⟩;cases j with
     |zero=>
      rw[eu,K i o (N i o F)]at C;cases C;refine⟨t,os,f,hk,λρ=>rfl,λl b hl=>?_⟩;obtain⟨c,V,y⟩:=h3 l b hl;refine⟨c,V,?_⟩
      split at y
      ·rename_i e;rw[if_pos e];obtain⟨j,w,v⟩:=y;exact⟨j,w,K j b v⟩
      ·rename_i e;rw[if_neg e];obtain⟨j,w,v⟩:=y;exact⟨j,w,Q j b v⟩
     |succ j=>
      obtain⟨U,B,f',g1,g2,g3⟩:=h6 j p (by rw[cV,Nat.add_comm 1 j];exact C);exact⟨U,B,f',g1,λρ=>g2 ρ,g3⟩
    ·cases h
   ·cases h
theorem XW{g:St->u (Ex×St)}{x:SX}{s:St}(h:x≠O):JD g (Z (Ry x,s))=Z (Ry x,s):=by
 cases x with
 |none=>exact absurd rfl h
 |some y=>cases y<;>rfl
theorem af0{id:Nat}{o:SO}{s:St}:YY id (Z (Ry o.x,s))=Z (Ry (Ki id o).x,s):=by
 unfold Ki;split
 ·rename_i h;rw[h];simp[Ry,YY]
 ·rename_i h;rcases a:o.x with _|_|i
  ·rfl
  ·rfl
  ·have:i≠id:=by rintro rfl;exact h a
   simp[Ry,YY,this]
theorem LL{a β:Type}(f:a->β):∀{l:M a} {i:Nat} {x:a},nth l i=Z x->nth (l.map f) i=Z (f x)
 |_::_,0,_,h=>by cases h;rfl
 |_::l,i+1,_,h=>LL f (l:=l) h
 |[],_,_,h=>by cases h
theorem EF:∀{c:M Nat} {S d:SS},nS S c=Z d->∀r∈c,∃x y,look S.rw r=Z x/\look d.rw r=Z y
 |[],_,_,_,r,e=>by cases e
 |q::c,S,d,h,r,e=>by
  simp only[nS]at h
  split at h
  ·rename_i x k;have eB:∀{c:M Nat} {S d:SS} {r:Nat} {y:SR},nS S c=Z d->look S.rw r=Z y->∃b,look d.rw r=Z b:=by
    intro c
    induction c with
    |nil=>intro S d r y h g;cases h;exact⟨y,g⟩
    |cons a c i=>
     intro S d r y h g;simp only[nS]at h
     split at h
     ·rename_i b j;by_cases f:a=r
      ·exact i h (y:=b.share) (by simp[SS.setRow,look,f])
      ·exact i h (y:=y) (by simp only[SS.setRow,look,if_neg f,fg];exact g)
     ·cases h
   rcases aP.1 e with rfl|e
   ·obtain⟨b,j⟩:=eB h (r:=r) (y:=x.share) (by simp[SS.setRow,look]);exact⟨x,b,k,j⟩
   ·obtain⟨l,y,g1,g2⟩:=EF h r e;by_cases f:q=r
    ·exact⟨x,y,f▸k,g2⟩
    ·simp only[SS.setRow,look,if_neg f,fg]at g1;exact⟨l,y,g1,g2⟩
  ·cases h
theorem O2(h:Rel ρ S s):∀{f:M SB} {g:M C},(∀r∈gK f,∃x,look S.rw r=Z x)->eR ρ f g->eR ρ (f.map (acM S)) (g.map (M5 s))
 |[],_,_,j=>by simp only[eR]at j;subst j;rfl
 |x::f,_,l,⟨c,g,n,b,m⟩=>by
  subst n;refine⟨_,_,rfl,?_,O2 h (λr o=>l r (by cases x<;>simp_all[gK])) m⟩;cases x with
  |ref r=>
   obtain⟨y,i⟩:=l r (by simp[gK]);obtain⟨a,g1,es,g2,rfl⟩:=h.rw r y i;simp only[kI]at b;subst b;simp only[acM,i,M5,g1];exact⟨_,g2,rfl⟩
  |d e=>obtain⟨y,g1,rfl⟩:=b;exact⟨y,g1,rfl⟩
  |nil k p=>simp only[kI]at b;subst b;exact⟨_,rfl,rfl⟩
  |any=>trivial
theorem mD(C:Yn (fP T) kR G):∀(k:K) {S:SS} {ρ:M D} {s:St} {t:ST} {outs:M SO},Rel ρ S s->pe hint kR k S ρ.length=Z (t,outs)->Fits G t outs ρ (ev T mf k s)
 | .skip,S,ρ,s,t,outs,h,n=>by
  simp only[pe,aa]at n;rw[Pf];exact u9 h rfl n
 | .exit id,S,ρ,s,t,outs,h,n=>by
  simp only[pe,aa]at n;rw[Pe];exact u9 h rfl n
 | .ret,S,ρ,s,t,outs,h,n=>by
  simp only[pe,aa]at n;rw[U9];exact u9 h rfl n
 | .QH ops kp,S,ρ,s,t,outs,h,n=>by
  simp only[pe]at n;rw[U8];exact HD C h rfl n
 | .UK ops kp,S,ρ,s,t,outs,h,n=>by
  simp only[pe]at n;rw[U7];exact vt C (λ_ hp=>hp) h rfl n
 | .seq a b,S,ρ,s,t,outs,h,n=>by
  simp only[pe]at n
  split at n
  ·rename_i ta oa hA
   split at n
   ·rename_i ts N hf;cases n;have P:=mD C a h hA;obtain⟨_,W⟩:=Ph (G:=G) hf;intro j σ hd;simp only[dY]at hd
    split at hd
    ·rename_i j0 Q h0;obtain⟨o,B,g1,g2,g3,g4⟩:=P j0 Q h0;obtain⟨t',os',g5,g6⟩:=W j0 o g1;rw[U_,g2]
     split at g5
     ·rename_i F;rw[<- g3]at g5;have hfb:=mD C b g4 g5;rw[F];exact g6 _ Q hfb j σ hd
     ·rename_i F;simp only[aa]at g5;have hi:=adt (G:=G) g3 g4;rw[g5]at hi;rw[XW F];exact g6 _ Q hi j σ hd
    ·cases hd
   ·cases n
  ·cases n
 | .cond c a b,S,ρ,s,t,outs,h,n=>by
  simp only[pe]at n
  split at n
  ·rename_i e ta oa tb ob hc hA hB;generalize hq:oM ob oa=q at n;obtain⟨f,N⟩:=q;cases n;obtain⟨q1,q2⟩:=py hq;obtain⟨y,V,X⟩:=lN h (gs:=[]) rfl hc;rw[Im,X];refine Pr (λhg=>?_) λhg=>?_
   ·have:=nO hg (e,I) (by simp);simp only[V,aa]at this;subst this;exact (mD C a h hA).more q2
   ·obtain⟨p,hp,he⟩:=Dl hg;simp only[bI]at hp;subst hp;simp only[V,aa]at he;subst he;exact (mD C b h hB).map q1
  ·cases n
 | .block id a,S,ρ,s,t,outs,h,n=>by
  simp only[pe]at n
  split at n
  ·rename_i t' ab4 hA;generalize hq:oM (ab4.map (Ki id)) []=q at n;obtain⟨f,N⟩:=q;cases n;obtain⟨q1,_⟩:=py hq;have P:=mD C a h hA;rw[K1];refine Fits.map (outs:=ab4.map (Ki id)) ?_ q1;intro j σ hd;obtain⟨o,B,g1,g2,g3,g4⟩:=P j σ hd;refine⟨Ki id o,B,LL _ g1,by rw[g2,af0],?_,?_⟩
   ·rw[g3];unfold Ki;split<;>rfl
   ·unfold Ki;split<;>exact g4
  ·cases n
 | .share r a,S,ρ,s,t,outs,h,n=>by
  simp only[pe]at n
  split at n
  ·rename_i S' hS;rw[K2];exact mD C a (nT h hS) n
  ·cases n
 | .Ci d a,S,ρ,s,t,outs,h,n=>by
  simp only[pe]at n;rw[U6];have R:∀{c:SC},look S.sl d=Z ⟨[],c⟩->lD ρ c (s.get d):=λw=>by
   obtain⟨b,Y,W,_⟩:=h.sl d _ w;cases Y;exact W rfl
  split at n
  ·rename_i r w;have L:=R w;simp only[lD,kI]at L
   split at n
   ·rename_i x F;obtain⟨y,Y,es,W,rfl⟩:=h.rw r x F;have hd:oZ s d=Z ((eE s [r]).put (Z d) (.d (.list x.k x.fl es))):=by simp only[oZ,L,Y]
    rw[hd,dS];refine mD C a (Rel.put ?_ _ (qg.nil (c:=.b (.d x.e)) ⟨_,W,rfl⟩)) n;have:=nT (rs:=[r]) (S':=S.setRow r x.share) h (by simp[nS,F]);exact this
   ·cases n
  ·rename_i e w;obtain⟨y,_,L⟩:=R w;have hd:oZ s d=Z s:=by simp only[oZ,L]
   rw[hd,dS];exact mD C a h n
  ·rename_i k fl w;have L:=R w;simp only[lD,kI]at L;have hd:oZ s d=Z (s.put (Z d) (.d (.list k fl []))):=by simp only[oZ,L]
   rw[hd,dS];exact mD C a (h.put _ (qg.nil (c:=.b (.d (.k (.nil k fl)))) ⟨_,rfl,rfl⟩)) n
  ·rename_i b w;have L:=R w;simp only[lD]at L
   split at n
   ·rename_i xs F
    split at n
    ·rename_i S' hS
     split at n
     ·rename_i hc;obtain⟨cs,Y,W⟩:=h.bx b xs F;have sC:=nq W hc;have hd:oZ s d=Z ((eE s (rowsOf cs)).gk b (cs.map (M5 s))):=by simp only[oZ,L,Y]
      rw[hd,dS,sC];refine mD C a (Rel.gk (nT h hS) b ?_) n;exact O2 h (λr hm=>by obtain⟨x,_,g,_⟩:=EF hS r hm;exact⟨x,g⟩) W
     ·cases n
    ·cases n
   ·cases n
  ·cases n
 | .loop a,S,ρ,s,t,outs,h,n=>by
  simp only[pe]at n;generalize hq:Rh [] S=q at n;obtain⟨S',es⟩:=q;simp only at n
  split at n
  ·rename_i ts H i hL;cases n;obtain⟨Y,_,h3⟩:=LA (G:=G) hL;intro j σ hd;simp only[dY]at hd
   split at hd
   ·rename_i Q h0;have mu:=Nf hd;have step:∀{p:Nat×M D} {sg:Sg (Nat×M D) (Nat×M D)} {o:SO} {s:St},wR (dY G ts p.1 p.2)=Z sg->nth H p.1=Z o->p.2.length=o.m->Rel p.2 o.S s->
      ∃v B j U,ev T mf a s=Z (Ry v.x,B)/\U.length=v.m/\Rel U v.S B/\((v.x=O/\sg=.go (j,U)/\nth H j=Z v)\/(v.x≠O/\sg=.out (j,U)/\nth outs j=Z v)):=by
     intro p sg o s A ho w hR;obtain⟨t,os,f,g1,g2,g3⟩:=h3 p.1 o (by rw[bD];exact ho);rw[g2]at A;simp only[dY]at A;rw[<- w]at g1;have P:=mD C a hR g1
     split at A
     ·rename_i l U h0;obtain⟨v,B,V,X,w3,w4⟩:=P l U h0;obtain⟨c,q1,q2⟩:=g3 l v V;rw[q1]at A;simp only[aH,wR,aa]at A;refine⟨v,B,c / 2,U,X,w3,w4,?_⟩
      split at q2
      ·rename_i F;obtain⟨j,rfl,q3⟩:=q2;rw[if_pos (by omega)]at A;have e:2 * j / 2=j:=by omega
       exact .inl ⟨F,A.symm,by rw[e];exact q3⟩
      ·rename_i F;obtain⟨j,rfl,q3⟩:=q2;rw[if_neg (by omega)]at A;have e:(2 * j+1) / 2=j:=by omega
       exact .inr ⟨F,A.symm,by rw[e];exact q3⟩
     ·cases A
    have main:∀{p r:Nat×M D},zR (λp=>wR (dY G ts p.1 p.2)) p r->∀{o:SO} {s:St},nth H p.1=Z o->p.2.length=o.m->Rel p.2 o.S s->∃v B,nth outs r.1=Z v/\ev T mf (.loop a) s=Z (Ry v.x,B)/\r.2.length=v.m/\Rel r.2 v.S B:=by
     intro p r L
     induction L with
     |out A=>
      intro o s ho w hR;obtain⟨v,B,j,U,V,X,w3,w4⟩:=step A ho w hR;rcases w4 with ⟨_,w5,_⟩|⟨w5,w6,w7⟩
      ·cases w5
      ·cases w6;exact⟨v,B,w7,by rw[jh,V,XW w5],X,w3⟩
     |go A B1 ih=>
      intro o s ho w hR;obtain⟨v,B,j,U,V,X,w3,w4⟩:=step A ho w hR;rcases w4 with ⟨w5,w6,w7⟩|⟨_,w6,_⟩
      ·cases w6;obtain⟨o2,s2,v1,v2,v3⟩:=ih w7 X w3;refine⟨o2,s2,v1,?_,v3⟩;rw[jh,V,w5];exact v2
      ·cases w6
    exact main mu (Y 0 _ rfl) (lr h0) (OW h rfl hq h0)
   ·cases hd
  ·cases n
end
end
section
def xk:Nat->M SA->Nat->SS->u SS
 |_,[],_,S=>Z S
 |p,.val d l::as,c,S=>match Lo p 0 l c S with
  |(xs,a)=>if d=I then xk (p+1) as (c+l.length) (a.put (Z p) ⟨[],.agg xs⟩) else match xs with
   |[x]=>xk (p+1) as (c+l.length) (a.put (Z p) ⟨[],.b x⟩)
   |_=>O
 |p,.box l::as,c,S=>match Lo (p+500) 0 l c S with
  |(xs,a)=>xk (p+1) as (c+l.length) ((a.jQ (900+p) xs).put (Z p) ⟨[],.ptr (900+p) 0⟩)
def wrA(S:SS)(b:Bool)(a:M SB):u (SA×M SE×M Nat):=
 match gJ (wrS S) a with
 |some l=>Z (.val b (l.map (·.1)),l.map (·.2),gK a)
 |none=>O
def QJ(S:SS):KR->u (SA×M SE×M Nat)
 | .t d=>match look S.sl d with
  |some ⟨[],c⟩=>match c.cells with
   |some a=>wrA S c.isAgg a
   |none=>O
  |_=>O
 | .b _=>O
 | .c d n=>match look S.sl d with
  |some ⟨[],.ptr b 0⟩=>match look S.bx b with
   |some a=>if n=0 then (match a with
     |[x]=>wrA S J [x]
     |_=>O) else if a.length=n then wrA S I a else O
   |none=>O
  |_=>O
def Js(S:SS):M KR->u (M SA×M SE×M Nat)
 |[]=>Z ([],[],[])
 |r::rs=>match QJ S r,Js S rs with
  |some (a,es,l),Z (as,fs,b)=>Z (a::as,es++fs,l++b)
  |_,_=>O
def A5(S:SS):Nat->M SA->u (M SA×M SE×M Nat)
 |_,[]=>Z ([],[],[])
 |p,.val _ _::as=>A5 S (p+1) as
 |p,.box _::as=>match look S.bx (900+p) with
  |some a=>match gJ (wrS S) a,A5 S (p+1) as with
   |some l,Z (c,fs,b)=>Z (.box (l.map (·.1))::c,l.map (·.2)++fs,gK a++b)
   |_,_=>O
  |none=>O
def idxOf{a:Type}[DecidableEq a](x:a):M a->u Nat
 |[]=>O
 |y::l=>if y=x then Z 0 else (idxOf x l).map (·+1)
def I7(a:M KR)(e:lP)(S:SS):u ST:=
 match a with
 |[.b d]=>if e.args.all SA.isVal=I then (match look S.sl d with
  |some ⟨[],.ptr b 0⟩=>match look S.bx b with
   |some c=>match gJ (wrS S) c with
    |some l=>if kM (gK c)=I then (match idxOf ([SA.box (l.map (·.1))],[]) e.res with
     |some j=>Z (.leaf j (l.map (·.2)))
     |none=>O) else O
    |none=>O
   |none=>O
  |_=>O) else O
 |_=>O
def I8(kf:KF)(a:lP)(o:SO):u ST:=
 if o.x=O\/o.x=Z O then
  match Js o.S kf.res,A5 o.S 0 a.args with
  |some (rs,es,l),Z (os,fs,b)=>if kM (l++b)=I then (match idxOf (rs,os) a.res with
   |some j=>Z (.leaf j (es++fs))
   |none=>O) else O
  |_,_=>I7 kf.res a o.S
 else O
def Cv(kf:KF)(a:lP):M SO->u ST
 |[]=>Z .nil
 |o::os=>match I8 kf a o,Cv kf a os with
  |some t,Z b=>Z (.cons t b)
  |_,_=>O
def XG(hint:M Nat)(c:M (Nat×lP))(kf:KF)(a:lP):u ST:=
 match xk 0 a.args 0 ⟨[],[],[]⟩ with
 |some S=>match pe hint c kf.body S (tY a.args) with
  |some (t,outs)=>match Cv kf a outs with
   |some b=>Z (.seq t b)
   |none=>O
  |none=>O
 |none=>O
section
variable {ρ:M D} {S:SS} {s:St}
theorem vF:∀{l:M SA} {p c:Nat} {S j:SS} {s:St} {e:M D} {as:M A},Rel ρ S s->gN l e=Z as->Loc ρ c e->xk p l c S=Z j->Rel ρ j (lS p as s)
 |[],p,c,S,j,s,e,as,h,g,f,d=>by
  cases e with
  |nil=>cases g;cases d;exact h
  |cons a e=>cases g
 | .val P l::as,p,c,S,j,s,e,rs,h,g,f,d=>by
  obtain⟨r,K,i,n,rfl⟩:=gY g;simp only[lR]at i;obtain⟨B,w,rfl⟩:=ak.1 i;simp only[xk]at d;generalize v:Lo p 0 l c S=q at d;obtain⟨x,H⟩:=q;simp only at d
  obtain⟨y,F,t,m,k⟩:=xu h w (f.take _) v;simp only[lS,Ah,t]
  split at d
  ·rename_i o;rw[if_pos o];exact vF (m.put (Z p) (qg.nil (c:=.agg x) ⟨y,rfl,k⟩)) n (f.drop _) d
  ·rename_i o;rw[if_neg o]
   split at d
   ·obtain⟨N,G,rfl,C,L⟩:=k;exact vF (m.put (Z p) (qg.nil (c:=.b _) C)) n (f.drop _) d
   ·cases d
 | .box l::as,p,c,S,j,s,e,rs,h,g,f,d=>by
  obtain⟨r,K,i,n,rfl⟩:=gY g;simp only[lR]at i;obtain⟨B,w,rfl⟩:=ak.1 i;simp only[xk]at d;generalize v:Lo (p+500) 0 l c S=q at d;obtain⟨x,H⟩:=q;simp only at d
  obtain⟨y,F,t,m,k⟩:=xu h w (f.take _) v;simp only[lS,Ah,t];exact vF ((m.jQ (900+p) k).put (Z p) qg.ptr) n (f.drop _) d
theorem OH(h:Rel ρ S s){f:M SB}{e:M C}{k:Bool}{a:SA}{es:M SE}{l:M Nat}(g:eR ρ f e)(c:wrA S k f=Z (a,es,l)) :
  ∃d b,iT ρ es=Z d/\gJ (jT s) e=Z b/\lR a d=Z (.val k b)/\d.length=a.n/\rowsOf e=l:=by
 unfold wrA at c
 split at c
 ·rename_i q i;cases c;obtain⟨ys,b,o,m,j⟩:=zF h g i;exact⟨ys,b,o,m,by simp only[lR,j,aH],mN j,nq g (pP (p:=SB.cell) (λ_ _=>vx) i)⟩
 ·cases c
theorem X8{b:M SB}{d:Bool}{r:SA×M SE×M Nat}(a:wrA S d b=Z r):b.all SB.cell=I:=by
 unfold wrA at a
 split at a
 ·rename_i e c;exact pP (p:=SB.cell) (λ_ _=>vx) c
 ·cases a
theorem acs{c:SC}{v:C}{a:M SB}(d:lD ρ c v)(e:c.cells=Z a)(f:a.all SB.cell=I):v.isAgg=c.isAgg:=by
 cases c with
 |b x=>
  cases e;have:=kI.cell d (by simpa using f);cases v<;>first|rfl|cases this
 |agg ys=>obtain⟨g,rfl,_⟩:=d;rfl
 |_=>cases e
theorem Xo(h:Rel ρ S s){r:KR}{a:SA}{es:M SE}{l:M Nat}(e:QJ S r=Z (a,es,l)):∃f x,Ez s r=Z (x,l)/\iT ρ es=Z f/\lR a f=Z x/\f.length=a.n:=by
 cases r with
 |t d=>
  simp only[QJ]at e
  split at e
  ·rename_i c v;obtain⟨b,y,w,_⟩:=h.sl d _ v;cases y;have j:=w rfl
   split at e
   ·rename_i B H;have G:=X8 e;obtain⟨f,F,o,i,m,k,g⟩:=OH h (j.cells H G) e;have A:=acs j H G;simp only at A i g
    exact⟨f,_,by simp only[Ez,i,aH,A,g],o,m,k⟩
   ·cases e
  ·cases e
 |b d=>cases e
 |c d n=>
  simp only[QJ]at e
  split at e
  ·rename_i b v;obtain⟨R,y,w,_⟩:=h.sl d _ v;cases y;have j:=w rfl;simp only[lD]at j
   split at e
   ·rename_i B K;obtain⟨P,g1,g2⟩:=h.bx _ B K
    split at e
    ·rename_i q
     split at e
     ·rename_i x;obtain⟨f,F,o,i,m,k,g⟩:=OH h g2 e;obtain⟨Q,L,rfl,N,C⟩:=g2;simp only[eR]at C;subst C;exact⟨f,_,by simp only[Ez,j,g1,q,if_true,i,aH,g],o,m,k⟩
     ·cases e
    ·rename_i q
     split at e
     ·rename_i p;obtain⟨f,F,o,i,m,k,g⟩:=OH h g2 e;exact⟨f,_,by simp only[Ez,j,g1,if_neg q];rw[if_pos (by rw[g2.len,p]),i];simp only[aH,g],o,m,k⟩
     ·cases e
   ·cases e
  ·cases e
theorem Ae:∀{a:SA} {as:M SA} {ws us:M D} {x:A} {rs:M A},lR a ws=Z x->ws.length=a.n->gN as us=Z rs->gN (a::as) (ws++us)=Z (x::rs):=by
 intro a as ws us x rs d b c;simp only[gN,take_left' b,drop_left' b,d,c,aH]
theorem Hw(h:Rel ρ S s):∀{e:M KR} {as:M SA} {es:M SE} {l:M Nat},Js S e=Z (as,es,l)->∃d c,wX s e=Z (c,l)/\iT ρ es=Z d/\gN as d=Z c
 |[],_,_,_,b=>by cases b;exact⟨[],[],rfl,rfl,rfl⟩
 |r::e,as,es,l,b=>by
  simp only[Js]at b
  split at b
  ·rename_i a y v w fs t q p;cases b;obtain⟨d,x,o,n,m,k⟩:=Xo h q;obtain⟨j,c,i,g,f⟩:=Hw h p;exact⟨d++j,x::c,by simp only[wX,o,i,aH],qq n g,Ae m k f⟩
  ·cases b
theorem A6(h:Rel ρ S s):∀{args:M SA} {as:M A} {e:M D} {p:Nat} {i:M SA} {es:M SE} {l:M Nat},gN args e=Z as->A5 S p args=Z (i,es,l)->∃d c,vi s p as=Z (c,l)/\iT ρ es=Z d/\gN i d=Z c
 |[],as,e,p,i,es,l,f,b=>by
  cases e with
  |nil=>cases f;cases b;exact⟨[],[],rfl,rfl,rfl⟩
  |cons a e=>cases f
 | .val R B::args,as,e,p,i,es,l,f,b=>by
  obtain⟨r,L,g,n,rfl⟩:=gY f;simp only[lR]at g;obtain⟨v,G,rfl⟩:=ak.1 g;simp only[A5]at b;obtain⟨d,c,m,k,j⟩:=A6 h n b;exact⟨d,c,by simp only[vi,S7,m,aH,ay],k,j⟩
 | .box B::args,as,e,p,i,es,l,f,b=>by
  obtain⟨r,L,g,n,rfl⟩:=gY f;simp only[lR]at g;obtain⟨v,G,rfl⟩:=ak.1 g;simp only[A5]at b
  split at b
  ·rename_i c F
   split at b
   ·rename_i N H fs P q C;cases b;obtain⟨Q,g1,g2⟩:=h.bx _ c F;obtain⟨ys,w,y,x,o⟩:=zF h g2 q;obtain⟨d,t,m,k,j⟩:=A6 h n C;have K:=nq g2 (pP (p:=SB.cell) (λ_ _=>vx) q);refine⟨ys++d,.box w::t,?_,qq y k,Ae (by simp only[lR,o,aH]) (mN o) j⟩;simp only[vi,S7,g1,x,m,aH,K,aq,ay]
   ·cases b
  ·cases b
theorem Dq{a:Type}[DecidableEq a]{x:a}:∀{l:M a} {j:Nat},idxOf x l=Z j->nth l j=Z x
 |[],_,h=>by cases h
 |y::l,j,h=>by
  simp only[idxOf]at h
  split at h
  ·rename_i b;cases h;rw[b];rfl
  ·obtain⟨d,c,rfl⟩:=ak.1 h;exact Dq (l:=l) c
theorem KV{v:M SA×M SA}{a us:M D}{b os:M A}(d:gN v.1 a=Z b)(e:gN v.2 us=Z os):wq v (a++us)=Z (b,os):=by
 have c:=mM d;simp only[wq,take_left' c,drop_left' c,d,e]
theorem NF{G:Gf}{e:M KR}{g:lP}{t:ST}{as:M A}{us:M D}(h:Rel ρ S s)(K:gN g.args us=Z as)(c:I7 e g S=Z t){j:Nat}{i:M D}(hd:dY G t 0 ρ=Z (j,i)) :
  ∃d v r,e=[.b d]/\nth g.res j=Z v/\wq v i=Z r/\xE e as s=Z r:=by
 unfold I7 at c
 split at c
 ·rename_i d
  split at c
  ·rename_i C
   split at c
   ·rename_i b q
    split at c
    ·rename_i o L
     split at c
     ·rename_i l n
      split at c
      ·rename_i F
       split at c
       ·rename_i Q H;cases c;obtain⟨T,f,g1,_⟩:=h.sl d _ q;cases f;have f:=g1 rfl;simp only[lD]at f;obtain⟨R,B,m⟩:=h.bx _ o L;obtain⟨ys,rs,y,w,k⟩:=zF h m n;have P:=nq m (pP (p:=SB.cell) (λ_ _=>vx) n);simp only[dY,y,aa,aA]at hd;obtain⟨rfl,rfl⟩:=hd;refine⟨d,_,([.box rs],[]),rfl,Dq H,?_,?_⟩
        ·have N:gN [SA.box (l.map (·.1))] ys=Z [.box rs]:=by
          have:=Ae (a:=SA.box (l.map (·.1))) (as:=[]) (ws:=ys) (us:=[]) (x:=.box rs) (rs:=[]) (by simp only[lR,k,aH]) (mN k) rfl
          simpa using this
         have:=KV (v:=([SA.box (l.map (·.1))],[])) (us:=[]) N rfl
         simpa using this
        ·simp only[xE,C9 K C,f,B,P,F,w,if_true,aH]
       ·cases c
      ·cases c
     ·cases c
    ·cases c
   ·cases c
  ·cases c
 ·cases c
theorem SM{G:Gf}{kf:KF}{c:lP}{o:SO}{t:ST}{as:M A}{p:M D}(h:Rel ρ o.S s)(g:gN c.args p=Z as)(a:I8 kf c o=Z t){j:Nat}{e:M D}(hd:dY G t 0 ρ=Z (j,e)) :
  ∃v r,nth c.res j=Z v/\wq v e=Z r/\fin kf as (Z (Ry o.x,s))=Z r:=by
 unfold I8 at a
 split at a
 ·rename_i b
  split at a
  ·rename_i q es l os fs T K H
   split at a
   ·rename_i C
    split at a
    ·rename_i U F;cases a;obtain⟨Q,f,B,y,w⟩:=Hw h K;obtain⟨R,ys,n,m,k⟩:=A6 h g H;simp only[dY,qq y m,aa,aA]at hd;obtain⟨rfl,rfl⟩:=hd;refine⟨(q,os),(f,ys),Dq F,KV w k,?_⟩;have:leave kf as s=Z (f,ys):=by simp only[leave,B,n,C,if_true]
     rcases b with b|b<;>(rw[b];exact this)
    ·cases a
   ·cases a
  ·obtain⟨d,v,r,i,P,N,L⟩:=NF h g a hd;refine⟨v,r,P,N,?_⟩;have:leave kf as s=Z r:=by
    rw[<- L,i];simp only[leave,i,wX,Ez]
   rcases b with b|b<;>(rw[b];exact this)
 ·cases a
theorem Ea{G:Gf}{kf:KF}{c:lP}:∀{outs:M SO} {a:ST},Cv kf c outs=Z a->∀j o,nth outs j=Z o->∃t,I8 kf c o=Z t/\∀ρ,dY G a j ρ=dY G t 0 ρ
 |[],a,h,j,o,b=>by cases b
 |p::outs,a,h,j,o,b=>by
  simp only[Cv]at h
  split at h
  ·rename_i t d g f;cases h;cases j with
   |zero=>cases b;exact⟨t,g,λρ=>rfl⟩
   |succ j=>
    obtain⟨e,g1,g2⟩:=Ea (G:=G) f j o b;exact⟨e,g1,λρ=>g2 ρ⟩
  ·cases h
theorem aa8{T:Nat->u KF}{q:M (Nat×lP)}{G:Gf}(R:Yn (fP T) q G){hint:M Nat}{f:Nat}{kf:KF}(L:T f=Z kf)(U:kf.np≠999){g:lP}(Zz:g.args.length=kf.np){t:ST}(b:XG hint q kf g=Z t)
  {p d:M D} {as:M A} {j:Nat} (m:gN g.args p=Z as) (hd:dY G t 0 p=Z (j,d)):∃v r,nth g.res j=Z v/\wq v d=Z r/\fP T f as=Z r:=by
 have e:∀{l:M SA} {d:M D} {k:M A},gN l d=Z k->k.length=l.length:=by
  intro l
  induction l with
  |nil=>intro d k h;cases d<;>cases h;rfl
  |cons a l H=>
   intro d k h;obtain⟨r,EB,_,V,rfl⟩:=gY h;simp[H V]
 unfold XG at b
 split at b
 ·rename_i S N
  split at b
  ·rename_i t0 outs y
   split at b
   ·rename_i ts Q;cases b;have W:Rel p ⟨[],[],[]⟩ ⟨[],[],[]⟩:=⟨λ_ _ h=>(by cases h),λ_ _ h=>(by cases h),λ_ _ h=>(by cases h)⟩
    have P:=vF W m (c:=0) (λi x K=>by rw[bD];exact K) N;rw[<- mM m]at y;have Au:=mD (mf:=ya) R kf.body P y;simp only[dY]at hd
    split at hd
    ·rename_i w n Lh;obtain⟨o,s',g1,g2,g3,g4⟩:=Au w n Lh;obtain⟨t',Y,X⟩:=Ea (G:=G) Q w o g1;rw[X]at hd;obtain⟨v,r,F,C,B⟩:=SM g4 m Y hd;refine⟨v,r,F,C,?_⟩;rw[P0 T L U];unfold run;rw[if_pos (by rw[e m,Zz]),g2];exact B
    ·cases hd
   ·cases b
  ·cases b
 ·cases b
end
end
def BX:RV->Fh×D
 | .d x=>(.d,x)
 | .row r=>(.row r.k r.fl r.deep r.app r.fz,.list r.k r.fl r.es)
def C3:A->SA×M D
 | .val a l=>(.val a (l.map λv=>(BX v).1),l.map λv=>(BX v).2)
 | .box l=>(.box (l.map λv=>(BX v).1),l.map λv=>(BX v).2)
def rJ:M A->M SA×M D
 |[]=>([],[])
 |a::as=>((C3 a).1::(rJ as).1,(C3 a).2++(rJ as).2)
def M7(r:M A×M A):(M SA×M SA)×M D:=(((rJ r.1).1,(rJ r.2).1),(rJ r.1).2++(rJ r.2).2)
theorem US(v:RV):Ag (BX v).1 (BX v).2=Z v:=by
 cases v with
 |d x=>rfl
 |row r=>simp[BX,Ag]
theorem Gz:∀(l:M RV),mo (l.map λv=>(BX v).1) (l.map λv=>(BX v).2)=Z l
 |[]=>rfl
 |v::l=>by simp only[aW,mo,US,Gz l,aH]
theorem Uv(a:A):(C3 a).2.length=(C3 a).1.n:=by cases a<;>simp[C3,SA.n]
theorem UO(a:A):lR (C3 a).1 (C3 a).2=Z a:=by cases a<;>simp only[C3,lR,Gz,aH]
theorem Af:∀(as:M A),gN (rJ as).1 (rJ as).2=Z as
 |[]=>rfl
 |a::as=>by
  simp only[rJ];unfold gN;rw[List.take_left' (Uv a),List.drop_left' (Uv a),UO,Af as];rfl
theorem UR(r:M A×M A):wq (M7 r).1 (M7 r).2=Z r:=by
 have h:(rJ r.1).2.length=tY (rJ r.1).1:=mM (Af r.1);simp only[M7,wq,List.take_left' h,List.drop_left' h,Af]
theorem UB{v:Fh}{x:D}{r:RV}(h:Ag v x=Z r):BX r=(v,x):=by
 unfold Ag at h
 split at h
 ·cases h;rfl
 ·split at h
  ·rename_i a;obtain⟨rfl,rfl⟩:=a;cases h;rfl
  ·cases h
 ·cases h
theorem Aa:∀{l:M Fh} {b:M D} {a:M RV},mo l b=Z a->(a.map λv=>(BX v).1)=l/\(a.map λv=>(BX v).2)=b
 |[],[],_,h=>by cases h;exact⟨rfl,rfl⟩
 |[],_::_,_,h=>by cases h
 |_::_,[],_,h=>by cases h
 |v::l,x::b,a,h=>by
  simp only[mo]at h
  split at h
  ·rename_i r c;obtain⟨g,f,rfl⟩:=ak.1 h;obtain⟨e,d⟩:=Aa f;simp only[aW,e,d,UB c];exact⟨trivial,trivial⟩
  ·cases h
theorem Uz{a:SA}{e:M D}{r:A}(h:lR a e=Z r):C3 r=(a,e):=by
 cases a with
 |val g l=>
  simp only[lR]at h;obtain⟨f,d,rfl⟩:=ak.1 h;obtain⟨c,b⟩:=Aa d;simp only[C3,c,b]
 |box l=>
  simp only[lR]at h;obtain⟨f,d,rfl⟩:=ak.1 h;obtain⟨c,b⟩:=Aa d;simp only[C3,c,b]
theorem zZ:∀{l:M SA} {b:M D} {c:M A},gN l b=Z c->rJ c=(l,b)
 |[],[],_,h=>by cases h;rfl
 |[],_::_,_,h=>by cases h
 |a::as,b,c,h=>by
  obtain⟨r,f,e,d,rfl⟩:=gY h;simp only[rJ,Uz e,zZ d,bh]
theorem UA{v:M SA×M SA}{a:M D}{r:M A×M A}(h:wq v a=Z r):M7 r=(v,a):=by
 unfold wq at h
 split at h
 ·rename_i d outs c b;cases h;simp only[M7,zZ c,zZ b,bh]
 ·cases h
theorem PJ{a:Type}[DecidableEq a]{x:a}:∀{l:M a} {j:Nat},idxOf x l=Z j->nth l j=Z x
 |y::l,j,h=>by
  simp only[idxOf]at h
  split at h
  ·rename_i b;cases h;rw[b];rfl
  ·obtain⟨i,c,rfl⟩:=ak.1 h;exact (show nth l i=Z x from PJ c)
theorem bz{a:Type}:∀{l:M a} {i:Nat} {x:a},nth l i=Z x->x∈l
 |y::l,0,x,h=>by cases h;exact aU
 |y::l,i+1,x,h=>bk _ (bz (l:=l) h)
theorem Qf{a:Type}[DecidableEq a]{x:a}:∀{l:M a} {j:Nat},l.Nodup->nth l j=Z x->idxOf x l=Z j
 |y::l,0,b,h=>by cases h;simp[idxOf]
 |y::l,j+1,b,h=>by
  have c:y≠x:=λe=>(cl.1 b).1 (e▸bz (l:=l) h);simp only[idxOf,if_neg c,Qf (cl.1 b).2 h,aH]
noncomputable def GF(T:Nat->u KF)(c:M (Nat×lP)):Gf:=λi b=>
 match look c i with
 |some a=>match gN a.args b with
  |some as=>match fP T a.f as with
   |some r=>(idxOf (M7 r).1 a.res).map (·,(M7 r).2)
   |none=>O
  |none=>O
 |none=>O
theorem CK(T:Nat->u KF)(a:M (Nat×lP)):Yn (fP T) a (GF T a):=by
 intro i l d g j k h;simp only[GF,d]at h
 split at h
 ·rename_i as e
  split at h
  ·rename_i r c;obtain⟨m,f,b⟩:=ak.1 h;simp only[aA]at b;obtain⟨rfl,rfl⟩:=b;exact⟨as,r,_,e,PJ f,UR r,c⟩
  ·cases h
 ·cases h
theorem xb{T:Nat->u KF}{b:M (Nat×lP)}{i:Nat}{sg:lP}(e:look b i=Z sg){ws a:M D}{as:M A}{r:M A×M A}{v:M SA×M SA}{j:Nat}(h:gN sg.args ws=Z as)
  (d:fP T sg.f as=Z r) (c:wq v a=Z r) (g:idxOf v sg.res=Z j):GF T b i ws=Z (j,a):=by
 simp only[GF,e,h,d,UA c,g,aH]
theorem afH{T:Nat->u KF}{b:M (Nat×lP)}{i:Nat}{a:lP}{hint:M Nat}{kf:KF}{t:ST}(n:look b i=Z a)(o:T a.f=Z kf)(g:(a.args.length ==kf.np && gf kf.np 999 && decide a.res.Nodup)=I)
  (m:XG hint b kf a=Z t) {c d:M D} {as:M A} {j:Nat} (e:gN a.args c=Z as) (hd:dY (GF T b) t 0 c=Z (j,d)):GF T b i c=Z (j,d):=by
 simp only[af,beq_iff_eq,decide_eq_true_eq,oU]at g;obtain⟨⟨q,s⟩,p⟩:=g;obtain⟨v,r,l,k,h⟩:=aa8 (CK T b) o (by omega) q m e hd;exact xb n e h k (Qf p l)
structure j_ where
 lo:Int
 hi:Int
 deriving DecidableEq
structure jU where
 aw:Int
 ranges:List j_
 names:List ByteArray
 pattern:ByteArray
 path:ByteArray
 deriving DecidableEq
structure iH where
 name_q:ByteArray
 bq:ByteArray
 deriving DecidableEq
structure kS where
 name_q:ByteArray
 fk:List iH
 deriving DecidableEq
structure iG where
 root:Bool
 nM:Int
 steps:List kS
 deriving DecidableEq
structure cM where
 op:Int
 num:Int
 text:ByteArray
 path:iG
 ae:List cM
structure ah where
 aw:Int
 name_q:ByteArray
 type:jU
 bl:List ByteArray
 unique:List ByteArray
 default:ByteArray
 given:Bool
 fy:Bool
 cT:Bool
 fixed:Bool
 min:Int
 max:Int
 when:List cM
 iP:List cM
 ae:List ah
structure aD where
 name_q:ByteArray
 bq:ByteArray
 ae:List aD
structure dq where
 op:Int
 text:ByteArray
 ae:List dq
def fR(s:z):M D:=[.str s]
def Bn(b:Bool):M D:=[.bool b]
def ki(x:j_):M D:=[.int .i64 x.lo,.int .i64 x.hi]
abbrev aO(l:M z):D:=.list 1 I (l.map fR)
abbrev bu(l:M Bool):D:=.list 1 I (l.map Bn)
abbrev fH(l:M j_):D:=.list 2 I (l.map ki)
def ef(x:jU):M D:=[.int .i64 x.aw,fH x.ranges,aO x.names,.str x.pattern,.str x.path]
def jW(x:iH):M D:=[.str x.name_q,.str x.bq]
abbrev fq(l:M iH):D:=.list 2 I (l.map jW)
def eS(x:kS):M D:=[.str x.name_q,fq x.fk]
abbrev cC(l:M kS):D:=.list 2 J (l.map eS)
def ej(x:iG):M D:=[.bool x.root,.int .i64 x.nM,cC x.steps]
theorem cM.DB{x y:cM}(h:y∈x.ae):av y < av x:=by
 have a:=aX h;cases x;simp only[cM.mk.sizeOf_spec];dsimp only at a;omega
def cj(x:cM):M D:=[.int .i64 x.op,.int .i64 x.num,.str x.text,.bool x.path.root,.int .i64 x.path.nM,cC x.path.steps,.list 7 J (x.ae.map λy=>cj y)]
termination_by av x
decreasing_by exact cM.DB (by assumption)
abbrev dm(l:M cM):D:=.list 7 J (l.map cj)
theorem br(x:cM):cj x=[.int .i64 x.op,.int .i64 x.num,.str x.text,.bool x.path.root,.int .i64 x.path.nM,cC x.path.steps,dm x.ae]:=by rw[cj]
theorem ah.DB{x y:ah}(h:y∈x.ae):av y < av x:=by
 have a:=aX h;cases x;simp only[ah.mk.sizeOf_spec];dsimp only at a;omega
def aB(x:ah):M D:=[.int .i64 x.aw,.str x.name_q,.int .i64 x.type.aw,fH x.type.ranges,aO x.type.names,.str x.type.pattern,.str x.type.path,aO x.bl,aO x.unique,.str x.default,.bool x.given,.bool x.fy,.bool x.cT,.bool x.fixed,.int .i64 x.min,.int .i64 x.max,dm x.when,dm x.iP,.list 19 J (x.ae.map λy=>aB y)]
termination_by av x
decreasing_by exact ah.DB (by assumption)
abbrev az(l:M ah):D:=.list 19 J (l.map aB)
theorem ai(x:ah):aB x=[.int .i64 x.aw,.str x.name_q,.int .i64 x.type.aw,fH x.type.ranges,aO x.type.names,.str x.type.pattern,.str x.type.path,aO x.bl,aO x.unique,.str x.default,.bool x.given,.bool x.fy,.bool x.cT,.bool x.fixed,.int .i64 x.min,.int .i64 x.max,dm x.when,dm x.iP,az x.ae]:=by rw[aB]
theorem aD.DB{x y:aD}(h:y∈x.ae):av y < av x:=by
 have a:=aX h;cases x;simp only[aD.mk.sizeOf_spec];dsimp only at a;omega
def bp(x:aD):M D:=[.str x.name_q,.str x.bq,.list 3 J (x.ae.map λy=>bp y)]
termination_by av x
decreasing_by exact aD.DB (by assumption)
abbrev aZ(l:M aD):D:=.list 3 J (l.map bp)
theorem aT(x:aD):bp x=[.str x.name_q,.str x.bq,aZ x.ae]:=by rw[bp]
theorem dq.DB{x y:dq}(h:y∈x.ae):av y < av x:=by
 have a:=aX h;cases x;simp only[dq.mk.sizeOf_spec];dsimp only at a;omega
def jb(x:dq):M D:=[.int .i64 x.op,.str x.text,.list 3 J (x.ae.map λy=>jb y)]
termination_by av x
decreasing_by exact dq.DB (by assumption)
abbrev ct(l:M dq):D:=.list 3 J (l.map jb)
theorem aV(x:dq):jb x=[.int .i64 x.op,.str x.text,ct x.ae]:=by rw[jb]
theorem QU{a:Type}(f:a->M D):∀{b:M a} {x:a},x∈b->fN (f x)<=nG (b.map f)
 |[],_,h=>by simp at h
 |y::ys,x,h=>by
  simp -implicitDefEqProofs only [aW,nG]
  rcases aP.1 h with rfl|h
  ·omega
  ·have:=QU f h;omega
abbrev bQ{a:Type}(f:a->M D)(l:M a):Nat:=l.length+nG (l.map f)
theorem eh{b:Type}(f:b->M D){l:M b}{x:b}(h:x∈l):fN (f x) < bQ f l:=by
 have d:=QU f h;have c:0 < l.length:=by cases l with|nil=>cases h|cons a l=>simp
 simp only[bQ];omega
theorem fJ{a:Type}(f:a->M D)(x:a)(l:M a):bQ f (x::l)=fN (f x)+bQ f l+1:=by
 simp only[bQ,aE,aW,nG];omega
theorem hY{a:Type}(f:a->M D)(l m:M a):bQ f (l++m)=bQ f l+bQ f m:=by
 simp only[bQ,aR,bR,tI];omega
theorem XQ{a:Type}(f:a->M D)(l:M a)(i:Nat):bQ f (l.take i)<=bQ f l:=by
 have:=hY f (l.take i) (l.drop i);rw[bh]at this;omega
theorem QV(l:M z){s:z}(h:s∈l):s.size < bQ fR l:=by
 have:=eh fR h;simp only[fR,fN,D.sz]at this;omega
theorem p6(x:jU):fN (ef x)=bQ ki x.ranges+bQ fR x.names+x.pattern.size+x.path.size:=by
 simp only[ef,fN,D.sz,aj,bQ];omega
theorem EW(x:iH):fN (jW x)=x.name_q.size+x.bq.size:=by simp only[jW,fN,D.sz];omega
theorem pZ(x:kS):fN (eS x)=x.name_q.size+bQ jW x.fk:=by simp only[eS,fN,D.sz,aj,bQ];omega
theorem pY(x:iG):fN (ej x)=bQ eS x.steps:=by simp only[ej,fN,D.sz,aj,bQ];omega
theorem lO(x:cM):fN (cj x)=x.text.size+fN (ej x.path)+bQ cj x.ae:=by simp only[br,ej,fN,D.sz,aj,bQ];omega
theorem dN(x:ah):fN (aB x)=x.name_q.size+fN (ef x.type)+bQ fR x.bl+bQ fR x.unique+x.default.size+bQ cj x.when+bQ cj x.iP+bQ aB x.ae:=by
 simp only[ai,ef,fN,D.sz,aj,bQ];omega
theorem jJ(x:aD):fN (bp x)=x.name_q.size+x.bq.size+bQ bp x.ae:=by simp only[aT,fN,D.sz,aj,bQ];omega
section
def M0(i:Nat):Nat->Nat->M SE
 |_,0=>[]
 |j,n+1=>.c i j::M0 i (j+1) n
abbrev Y(i:Nat):SE:=.v i
abbrev N(n:Int):SE:=.k (.int .i64 n)
abbrev U(n:Int):SE:=.k (.int .u8 n)
abbrev B(b:Bool):SE:=.k (.bool b)
abbrev L(k:Nat)(a:Bool):SE:=.k (.nil k a)
abbrev X(i j:Nat):SE:=.c i j
abbrev o_(o:PO)(es:M SE)(t:ST):ST:=.op [] o es t
abbrev p_(a:Gs)(t:ST):ST:=.op a .pl [] t
abbrev c1(t:ST):ST:=.cons t .nil
abbrev r_(i n:Nat):M SE:=E0 i n
abbrev t_(i:Nat)(o:PO)(es:M SE)(t:ST):ST:=.op [(.v i,I)] o es t
abbrev f_(i:Nat)(o:PO)(es:M SE)(t:ST):ST:=.op [(.v i,J)] o es t
abbrev d_(i:Nat)(a b:ST):ST:=.gd [(.v i,I)] a b
abbrev e_(i:Nat)(a b:ST):ST:=.gd [(.v i,J)] a b
abbrev L_(es:M SE):ST:=.leaf 0 es
abbrev M1(t:ST):ST:=.map [1] t
abbrev b_(a b:ST):ST:=.seq a (.cons b .nil)
abbrev k_(a b:ST):ST:=.cons a b
abbrev h_(a b:ST):ST:=.seq a b
abbrev Ys(i j:Nat)(t:ST):ST:=.op [] .ite [.v i,.v j,.k (.bool J)] t
abbrev WJ(i j:Nat)(t:ST):ST:=.op [] .ite [.v i,.k (.bool I),.v j] t
abbrev Qy(i:Nat)(t:ST):ST:=.op [(.v i,I)] .pl [] t
abbrev Qq(i:Nat)(t:ST):ST:=.op [(.v i,J)] .pl [] t
abbrev z_(t:ST):ST:=.seq t (.cons (.leaf 0 [.v 0]) .nil)
abbrev c_(i:Nat)(es:M SE)(t:ST):ST:=.call i es (.cons t .nil)
abbrev xs_(i j n:Nat):M SE:=M0 i j n
abbrev E2:PO:=.bin .eql
abbrev N2:PO:=.bin .neq
abbrev L2:PO:=.bin .lss
abbrev G2:PO:=.bin .gtr
abbrev H2:PO:=.bin .geq
abbrev A2:PO:=.bin .add
abbrev S2:PO:=.bin .sub
abbrev zB(b:Bool):SK:=.bool b
abbrev R:=u (Nat×M D)
noncomputable def opT(r:u D)(G:Gf)(t:ST)(a:M D):R:=match r with
 |some x=>dY G t 0 (a++[x])
 |none=>O
def poT(o:PO):u (M D)->u D
 |some a=>aK o a
 |none=>O
noncomputable def WE(g:u Bool)(G:Gf)(o:PO)(es:M SE)(t:ST)(a:M D):R:=match g with
 |some I=>opT (poT o (iT a es)) G t a
 |some J=>dY G t 0 (a++[.bool J])
 |none=>O
noncomputable def TN(g:u Bool)(G:Gf)(a b:ST)(c:M D):R:=match g with
 |some I=>dY G a 0 c
 |some J=>dY G b 0 c
 |none=>O
noncomputable def clR(r:R)(G:Gf)(b:ST)(a:M D):R:=match r with
 |some (j,ws)=>dY G b j (a++ws)
 |none=>O
noncomputable def clT(r:u (M D))(G:Gf)(i:Nat)(c:ST)(a:M D):R:=match r with
 |some b=>clR (G i b) G c a
 |none=>O
def lfT(j:Nat):u (M D)->R
 |some a=>Z (j,a)
 |none=>O
def mpT(f:M Nat):R->R
 |some (j,σ)=>(nth f j).map (·,σ)
 |none=>O
noncomputable def sqT(r:R)(G:Gf)(a:ST):R:=match r with
 |some (j,σ)=>dY G a j σ
 |none=>O
noncomputable def lB(G:Gf)(a:ST)(p:Nat×M D):u (Sg (Nat×M D) (Nat×M D)):=wR (dY G a p.1 p.2)
noncomputable def lpT(r:u (M D))(G:Gf)(h:Nat)(b:ST):R:=match r with
 |some a=>bK (lB G b) (h,a)
 |none=>O
def gsT(w:Bool):u D->u Bool->u Bool
 |some (.bool b),Z c=>Z (if b=w then c else J)
 |_,_=>O
def elT(j:Nat):u D->u D
 |some x=>match TM x with
  |some a=>nth a j
  |none=>O
 |none=>O
def csT:u D->u (M D)->u (M D)
 |some x,Z xs=>Z (x::xs)
 |_,_=>O
section
variable (G:Gf) (ρ:M D)
theorem agw(o:PO)(es:M SE)(t:ST)(j:Nat):dY G (.op [] o es t) j ρ=opT (poT o (iT ρ es)) G t ρ:=by
 simp only[dY,iJ,opT,poT];cases iT ρ es<;>rfl
theorem agv(p:SE×Bool)(a:Gs)(o:PO)(es:M SE)(t:ST)(j:Nat):dY G (.op (p::a) o es t) j ρ=WE (iJ ρ (p::a)) G o es t ρ:=by
 simp only[dY,WE,opT,poT];generalize iJ ρ (p::a)=g;rcases g with _|_|_
 ·rfl
 ·rfl
 ·cases iT ρ es<;>rfl
theorem agr(c:Gs)(a b:ST)(j:Nat):dY G (.gd c a b) j ρ=TN (iJ ρ c) G a b ρ:=(rfl)
theorem agq(i:Nat)(es:M SE)(a:ST)(j:Nat):dY G (.call i es a) j ρ=clT (iT ρ es) G i a ρ:=(rfl)
theorem ags(j:Nat)(es:M SE)(k:Nat):dY G (.leaf j es) k ρ=lfT j (iT ρ es):=(rfl)
theorem agu(f:M Nat)(t:ST)(k:Nat):dY G (.map f t) k ρ=mpT f (dY G t 0 ρ):=(rfl)
theorem agx(t a:ST)(k:Nat):dY G (.seq t a) k ρ=sqT (dY G t 0 ρ) G a:=(rfl)
theorem agt(h:Nat)(es:M SE)(a:ST)(k:Nat):dY G (.loop h es a) k ρ=lpT (iT ρ es) G h a:=(rfl)
theorem agp(a b:ST)(k:Nat):dY G (.both a b) k ρ=F6 (dY G a 0 ρ) (dY G b 0 ρ):=(rfl)
theorem abH(a b:ST):dY G (.cons a b) 0 ρ=dY G a 0 ρ:=(rfl)
theorem abI(a b:ST)(j:Nat):dY G (.cons a b) (j+1) ρ=dY G b j ρ:=(rfl)
theorem aiq(x:D)(t:ST):opT (Z x) G t ρ=dY G t 0 (ρ++[x]):=(rfl)
theorem aiF(o:PO)(a:M D):poT o (Z a)=aK o a:=(rfl)
theorem aih(o:PO)(es:M SE)(t:ST):WE (Z I) G o es t ρ=opT (poT o (iT ρ es)) G t ρ:=(rfl)
theorem aif(o:PO)(es:M SE)(t:ST):WE (Z J) G o es t ρ=dY G t 0 (ρ++[.bool J]):=(rfl)
theorem agL(a b:ST):TN (Z I) G a b ρ=dY G a 0 ρ:=(rfl)
theorem agK(a b:ST):TN (Z J) G a b ρ=dY G b 0 ρ:=(rfl)
theorem agj(a:M D)(i:Nat)(b:ST):clT (Z a) G i b ρ=clR (G i a) G b ρ:=(rfl)
theorem agi(j:Nat)(a:M D)(b:ST):clR (Z (j,a)) G b ρ=dY G b j (ρ++a):=(rfl)
theorem ahT(j:Nat)(a:M D):lfT j (Z a)=Z (j,a):=(rfl)
theorem ah6(f:M Nat)(j:Nat)(a:M D):mpT f (Z (j,a))=(nth f j).map (·,a):=(rfl)
theorem ajI(j:Nat)(a:M D)(b:ST):sqT (Z (j,a)) G b=dY G b j a:=(rfl)
theorem ahY(a:M D)(h:Nat)(b:ST):lpT (Z a) G h b=bK (lB G b) (h,a):=(rfl)
theorem d_v(i:Nat):SE.d ρ (.v i)=nth ρ i:=(rfl)
theorem d_k(x:SK):SE.d ρ (.k x)=Z x.d:=(rfl)
theorem d_c(i j:Nat):SE.d ρ (.c i j)=elT j (nth ρ i):=by
 simp only[SE.d,elT];cases nth ρ i<;>rfl
theorem agA(j k:Nat)(b:Bool)(a:M D):elT j (Z (.list k b [a]))=nth a j:=(rfl)
theorem agz:iT ρ []=Z []:=(rfl)
theorem acT(e:SE)(es:M SE):iT ρ (e::es)=csT (e.d ρ) (iT ρ es):=by
 simp only[iT];cases e.d ρ with
 |none=>rfl
 |some x=>cases iT ρ es<;>rfl
theorem agl(x:D)(a:M D):csT (Z x) (Z a)=Z (x::a):=(rfl)
theorem bn(b:ST)(h:Nat)(a:M D):lB G b (h,a)=wR (dY G b h a):=(rfl)
theorem gO(j:Nat)(a:M D):wR (Z (j,a))=Z (if j % 2=0 then .go (j / 2,a) else .out (j / 2,a)):=(rfl)
end
theorem sf(op:BinOp)(k:IntKind)(a b:Int):aK (.bin op) [.int k a,.int k b]=Re op k a b:=by
 simp only[aK,Kf,if_true];cases Re op k a b<;>rfl
theorem Qt(op:BinOp)(a b:z):aK (.bin op) [.str a,.str b]=Rf op a b:=by
 simp only[aK,Kf];cases Rf op a b<;>rfl
theorem aiG(op:BinOp)(a b:Bool):aK (.TL op) [.bool a,.bool b]=Ul op a b:=(rfl)
theorem WV(b:Bool):aK .not [.bool b]=Z (.bool (!b)):=(rfl)
theorem Jo(k b:IntKind)(a:Int):aK (.conv k) [.int b a]=Z (.int k (k.wrap a)):=(rfl)
theorem WU(k:IntKind)(a:Int):aK .neg [.int k a]=Z (.int k (k.wrap (-a))):=(rfl)
theorem N8(k:Nat)(a:Bool)(es:M (M D)):aK .len [.list k a es]=Z (.int .i64 es.length):=(rfl)
theorem WY(t:z):aK .sln [.str t]=Z (.int .i64 t.size):=(rfl)
theorem ad8(b:Bool)(x y:D):aK .ite [.bool b,x,y]=Z (if b then x else y):=(rfl)
theorem aaE(b y:Bool):aK .ite [.bool b,.bool I,.bool y]=Z (.bool (b ||y)):=by cases b<;>rfl
theorem aaD(b y:Bool):aK .ite [.bool b,.bool y,.bool J]=Z (.bool (b && y)):=by cases b<;>rfl
theorem ad6(o k:Nat)(b:Bool)(a:M D):aK (.OX o) [.list k b [a]]=nth a o:=(rfl)
theorem xQ(n k:Nat)(b:Bool)(a:M D):aK (.has n) [.list k b [a]]=if n<=a.length then Z (.bool J) else O:=(rfl)
theorem Qw(k:Nat)(a:Bool)(es:M (M D))(n:Int)(h:0<=n):aK (.el k) [.list k a es,.int .i64 n]=(nth es n.toNat).map λe=>.list 0 J [e]:=by simp only[aK,h,and_self,if_true]
theorem pT(k:Nat)(a:Bool)(es:M (M D))(n:Nat):aK (.el k) [.list k a es,.int .i64 (n:Int)]=(nth es n).map λe=>.list 0 J [e]:=by
 rw[Qw k a es n (by omega),cq]
theorem ad7(k:Nat)(a:Bool)(es:M (M D)):aK (.el k) [.list k a es,.int .i64 0]=(nth es 0).map λe=>.list 0 J [e]:=pT k a es 0
theorem xP(k:Nat)(a:Bool)(es:M (M D))(n:Nat)(h:n < es.length):aK .FA [.list k a es,.int .i64 (n:Int)]=Z (.bool J):=by
 simp only[aK,cq];rw[if_pos ⟨by omega,h⟩]
theorem c9(t:z)(n:Nat)(h:n < t.size):aK .XA [.str t,.int .i64 (n:Int)]=Z (.int .u8 (cr t n)):=by
 simp only[aK,cq];rw[if_pos ⟨by omega,h⟩]
theorem aiH(a:M D)(h:cD a=I):aK .pl a=Z (.bool J):=by simp only[aK,h,if_true]
theorem ad_(a:M D)(h:cD a=J):aK .LJ a=Z (.bool J):=by simp only[aK,h];rfl
theorem aea:aK .pl []=Z (.bool J):=(rfl)
theorem xO(k a:Nat)(c:Bool)(es b:M (M D))(h:(es.length+b.length) * a<=room/\es.length+b.length<=maxLen):aK (.app k a) [.list k c es,.list k c b]=Z (.list k c (es++b)):=by
 simp only[aK,h.1,h.2,and_self,if_true]
theorem ad9(a b:Int):aK .max [.int .i64 a,.int .i64 b]=Z (.int .i64 (if a < b then b else a)):=(rfl)
theorem tz(k:Nat)(a:Bool):aK (.mW k a) []=Z (.list k a []):=by
 simp only[aK,aJ,Nat.zero_mod,if_true,Nat.zero_div,chunk];simp
theorem afc(k:IntKind)(n:Int):SK.d (.int k n)=.int k n:=(rfl)
theorem aa3(b:Bool):SK.d (.bool b)=.bool b:=(rfl)
theorem afe(t:z):SK.d (.str t)=.str t:=(rfl)
theorem afd(k:Nat)(a:Bool):SK.d (.nil k a)=.list k a []:=(rfl)
theorem agN(a:M D)(e:SE)(w:Bool)(b:Gs)(c:Bool)(f:iJ a b=Z c):iJ a ((e,w)::b)=gsT w (e.d a) (Z c):=by
 simp only[iJ];cases e.d a with
 |none=>rfl
 |some x=>cases x<;>simp only[gsT,f]<;>split<;>rfl
theorem ac6(a:M D)(e:SE)(w:Bool):iJ a [(e,w)]=gsT w (e.d a) (Z I):=agN a e w [] I rfl
theorem agP(b:Bool):gsT I (Z (.bool b)) (Z I)=Z b:=by cases b<;>rfl
theorem agO(b:Bool):gsT J (Z (.bool b)) (Z I)=Z (!b):=by cases b<;>rfl
attribute [go_sem] sf Qt aiG WV Jo WU N8 WY aaE aaD ad6 xQ pT ad7 aea ad9 tz afc aa3 afe afd ac6 agP agO
attribute [go_sem] agw agv agr agq ags agu agx agt agp abH abI aiq aiF aih aif agL agK agj agi ahT ah6 ajI ahY d_v d_k d_c agA agz acT agl CW
attribute [go_sem] M0
attribute [go_sem] cL Nat.reduceMod Nat.reduceDiv bP reduceIte Int.reduceEq dv du Int.reduceAdd Int.reduceSub Int.reduceNeg
end
end Go.Proofs.YthlpjklbafakfaaGreatDoor
