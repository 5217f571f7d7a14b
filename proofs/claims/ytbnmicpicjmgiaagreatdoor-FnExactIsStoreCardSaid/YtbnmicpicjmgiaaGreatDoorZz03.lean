/- Part of the proof. Condition: none. -/
import Derived.Test.YtbnmicpicjmgiaaGreatDoorZz02
set_option linter.all false
open Bool renaming and_eq_true->aw,not_eq_true'->dm,eq_false_iff->dQ,true->I,false->J
open Int renaming toNat_natCast->cn,reduceEq->rF
open List renaming length_map->aj,nil_append->au,length_append->ay,append_nil->aG,length_nil->aJ,length_cons->aN,mem_cons->aU,mem_append->aX,append_assoc->aZ,length_take->bk,map_cons->bz,sizeOf_lt_of_mem->bB,all_eq_true->bF,mem_singleton->ct,nodup_cons->cW,all_cons->dt,mem_cons_of_mem->eb,mem_cons_self->eo,flatMap_cons->fe,any_eq_true->fC,mem_filter->iy,length_drop->kO
open Nat renaming zero_le->bI,zero_add->bN,reduceEqDiff->cj,add_zero->dY,reduceAdd->eg,blt->eP,add_assoc->ij,blt_eq->xo
open Option renaming map_eq_some_iff->aC,isSome_iff_exists->cu,getD_some->cL,map_some->cV,bind_some->fY,some->Z,none->O
open Option.some renaming injEq->bq
open Prod.mk renaming injEq->cH
open SizeOf renaming sizeOf->aF
open Decidable renaming decide->Z'
namespace Go.Proofs.YtbnmicpicjmgiaaGreatDoor
def KQ(f:Nat)(as:M SA):M (Nat×pe)->u Nat
 |[]=>O
 |(i,a)::l=>if a.f=f/\a.args=as then Z i else KQ f as l
def AV(hint:M Nat)(c:M (Nat×pe))(S:SS)(n:Nat)(d:u Nat)(f:Nat)(a:M SC)(k:SS->Nat->u (ST×M SO)):u (ST×M SO):=
 match Ht S a with
 |some (as,es)=>match KQ f as c with
  |some i=>match look c i with
   |some b=>if b.f=f/\b.args=as/\(k8 (uq S a) && k8 (rM a) && (uq S a).all (λr=>!(Aq a).contains r))=I then
     (match aae (λv=>match Hv hint S a d n v with
      |some (e,h)=>match k h (n+(xx v.1+xx v.2)+e.length) with
       |some (t,outs)=>Z (DB [] e t,outs)
       |none=>O
      |none=>O) b.res []with
     |some (g,outs)=>Z (.call i es g,outs)
     |none=>O) else O
   |none=>O
  |none=>O
 |none=>O
def Hw(hint:M Nat)(h:M (Nat×pe))(S:SS)(e:Gs)(n:Nat)(d:u Nat)(op:KO)(k:SS->Nat->u (ST×M SO)):u (ST×M SO):=
 match op with
 | .call f xs=>match Hz S e xs with
  |some j=>if f<100000 then AV hint h S n d f j k else O
  |none=>O
 | .MP o f F x y=>match gy S e x,gy S e y with
  |some c,Z (.fn p a)=>if p=F then AV hint h S n d (Vc o f) (c::a.map λb=>.ptr b 0) k else O
  |_,_=>O
 | .cbx f xs=>match Hz S e xs with
  |some j=>match Ht S j with
   |some (as,es)=>match KQ f as h with
    |some i=>match look h i with
     |some g=>if g.f=f/\g.args=as/\f<100000/\g.args.all SA.isVal=I then
       (match aae (λv=>match Mo S j d n v with
        |some (a,l)=>match k l (n+(xx v.1+xx v.2)+a.length) with
         |some (t,outs)=>Z (DB [] a t,outs)
         |none=>O
        |none=>O) g.res []with
       |some (m,outs)=>Z (.call i es m,outs)
       |none=>O) else O
     |none=>O
    |none=>O
   |none=>O
  |none=>O
 |op=>match DE hint S e n d op with
  |some (a,l)=>match k l (n+a.length) with
   |some (t,outs)=>Z (DB [] a t,outs)
   |none=>O
  |none=>O
def Pl(hint:M Nat)(e:M (Nat×pe))(S:SS)(a:Gs)(n:Nat)(d:u Nat)(op:KO)(k:SS->Nat->u (ST×M SO)):u (ST×M SO):=
 if op.ql=I then (match afD S a n op with
  |some (b,c)=>match k (S.put d ⟨[],c⟩) (n+b.length) with
   |some (t,outs)=>Z (DB [] b t,outs)
   |none=>O
  |none=>O) else Hw hint e S a n d op k
def agL(S:SS)(a:Gs):Bool:=(S.sl.take 3).any λp=>match look S.sl p.1 with
 |some g=>Z' (g.gs=a)
 |none=>J
def full(S:SS)(b:Gs)(a:Bs):Bs:=match a with
 |[]=>if agL S b=I then [] else [(.pl,[])]
 |a=>a
def Hk(b c:Gs->u (ST×M SO)):Gs->Gs->u (ST×M SO)
 |[],a=>b a
 |p::d,a=>if p∈a then Hk b c d a else match Hk b c d (p::a),c ((p.1,!p.2)::a) with
  |some (g,i),Z (e,h)=>match o8 h i with
   |(f,outs)=>Z (.gd [p] g (OO f e),outs)
  |_,_=>O
def RT(hint:M Nat)(m:M (Nat×pe))(S:SS)(a:Gs)(n:Nat)(i:KI)(k:SS->Gs->Nat->u (ST×M SO)):u (ST×M SO):=
 match i with
 |⟨d,op,O⟩=>Pl hint m S a n d op (λj h=>k j a h)
 |⟨d,op,Z (g,w)⟩=>match look S.sl g with
  |some ⟨f,.b (.d e)⟩=>
   if (f++[(e,w)]).all (λp=>Z' (p∈a))=I then Pl hint m S a n d op (λj h=>k j a h)
   else if (f++[(e,w)]).any (λp=>Z' ((p.1,!p.2)∈a))=I then k (S.put d PN) a n
   else if op.ql=I then (match afD S ((f++[(e,w)])++a) n op with
    |some (o,c)=>match k (S.put d ⟨f++[(e,w)],c⟩) a (n+(full S (f++[(e,w)]) o).length) with
     |some (t,outs)=>Z (DB (f++[(e,w)]) (full S (f++[(e,w)]) o) t,outs)
     |none=>O
    |none=>O)
   else Hk (λl=>Pl hint m S l n d op (λj h=>k j l h)) (λl=>k (S.put d PN) l n) (f++[(e,w)]) a
  |some ⟨f,.any⟩=>if f=PN.gs then k (S.put d PN) a n else O
  |_=>O
def Hx(hint:M Nat)(c:M (Nat×pe))(b:zA):M KI->SS->Gs->Nat->u (ST×M SO)
 |[],S,a,n=>Z (GA O a (S.ey b))
 |i::is,S,a,n=>RT hint c S a n i (λe f d=>Hx hint c b is e f d)
section
variable {ρ:M D} {S:SS} {s:St} {G:Gf} {cf:Cf} {mf:Mf} {kG:M (Nat×pe)} {hint:M Nat} {n:Nat} {d:u Nat} {kn:Gs}
theorem pF:∀{l b f},gU l b=Z f->b.length=xx l
 |[],[],_,_=>rfl
 |[],_::_,_,h=>by cases h
 |a::as,b,f,h=>by obtain⟨r,m,c,j,rfl⟩:=iz h;have i:=pF j;have g:(b.take a.n).length=a.n:=by{cases a with|val k l=>{simp only[tO]at c;obtain⟨vs,e,_⟩:=aC.1 c;exact mR e}|box l=>simp only[tO]at c;obtain⟨vs,e,_⟩:=aC.1 c;exact mR e};rw[kO]at i;rw[bk]at g;simp[xx];omega
theorem NJ{v us r}(h:uY v us=Z r):us.length=xx v.1+xx v.2:=by unfold uY at h;split at h;{rename_i f outs e c;have b:=pF e;have a:=pF c;rw[bk]at b;rw[kO]at a;omega};cases h
def YB(G:Gf)(t:ST)(j:Nat)(outs:M SO)(ρ:M D)(run:u (Ex×St)):Prop:=
 ∀i a,eU G t j ρ=Z (i,a)->∃o b,nth outs i=Z o/\run=Z (Vr o.x,b)/\a.length=o.m/\Rel a o.S b
theorem KP{k}:∀{vs a b c},aae k vs a=Z (c,b)->
  (∀i x,nth a i=Z x->nth b i=Z x)/\∀j v,nth vs j=Z v->∃t os,k v=Z (t,os)/\∀run ρ,Fits G t os ρ run->YB G c j b ρ run
 |[],a,b,c,h=>by cases h;exact⟨λ_ _ l=>l,λj v F=>(by cases F)⟩
 |v::vs,a,b,c,h=>by simp[aae]at h;split at h;{rename_i t os L;generalize H:o8 os a=q at h;obtain⟨f,W⟩:=q;split at h;{rename_i y V N;cases h;obtain⟨R,Q⟩:=pN H;obtain⟨r,P⟩:=KP N;refine⟨λi x l=>r i x (Q i x l),λj w p=>?_⟩;cases j with|zero=>{cases p;refine⟨t,os,L,λrun ρ m i e hd=>?_⟩;have:=m.map (f:=f) (outs':=b) (λi o K=>by obtain⟨j,C,B⟩:=R i o K;exact⟨j,C,r j o B⟩);exact this i e hd}|succ j=>obtain⟨A,g,U,T⟩:=P j w p;exact⟨A,g,U,λrun ρ m i e hd=>T run ρ m i e hd⟩};cases h};cases h
theorem w_{b t outs run}(h:∀a,nL ρ b=Z a->Fits G t outs a run):Fits G (DB [] b t) outs ρ run:=by intro j c hd;obtain⟨g,i,f,e⟩:=Ea (gs:=[]) rfl hd;exact h _ (e rfl) j c f
theorem O8:∀(a:M Nat),Et ρ (a.map λb=>.ptr b 0) (a.map λb=>.ptr b 0)
 |[]=>rfl
 |b::a=>⟨_,_,rfl,rfl,O8 a⟩
theorem Dh(hG:Gok cf kG G)(h:Rel ρ S s)(V:jM ρ kn=Z I)(y:n=ρ.length){f cs g}{cf0:Cf}{f0 k t outs run}
  (Du:Et ρ cs g) (P:∀as r,Zd cf f as=Z r->cf0 f0 as=Z r) (Y:∀m b l t outs,Rel b m l->jM b kn=Z I->k m b.length=Z (t,outs)->Fits G t outs b (run l))
  (a:AV hint kG S n d f cs k=Z (t,outs)):Fits G t outs ρ ((nS cf0 s d f0 g).bind run):=by unfold AV at a;split at a;{rename_i as es ha;split at a;{rename_i i hi;split at a;{rename_i L U;split at a;{rename_i T;obtain⟨rfl,rfl,hd⟩:=T;split at a;{rename_i ts o X;cases a;obtain⟨_,h2⟩:=KP (G:=G) X;intro j A c;simp[eU]at c;split at c;{rename_i B Q;split at c;{rename_i x w W;obtain⟨as,r,v,H,F,q,C⟩:=hG i L U B x w W;obtain⟨t,os,e,g2⟩:=h2 x v F;split at e;{rename_i bs m R;split at e;{rename_i t' N K;cases e;refine g2 _ (ρ++w) ?_ j A c;refine w_ λb p=>?_;obtain⟨l,e1,e2⟩:=RS h y Du ha hd Q H q (P _ _ C) R p;rw[e1];obtain⟨τ,VY⟩:=oK p;refine Y m b l _ _ e2 (by rw[VY,aZ];exact kS _ V) ?_;rw[tj p,ay,<- y,NJ q];exact K};cases e};cases e};cases c};cases c};cases a};cases a};cases a};cases a};cases a
theorem Pn(L:Gok cf kG G)(h:Rel ρ S s)(m:jM ρ kn=Z I)(w:n=ρ.length){op k t outs run}
  (K:∀q g l t outs,Rel g q l->jM g kn=Z I->k q g.length=Z (t,outs)->Fits G t outs g (run l)) (a:Hw hint kG S kn n d op k=Z (t,outs)) :
  op.ql=J/\Fits G t outs ρ ((nG cf mf s d op).bind run):=by unfold Hw at a;split at a;{rename_i f xs;refine⟨rfl,?_⟩;split at a;{rename_i cs C;split at a;{rename_i P;exact Dh (cf0:=cf) (f0:=f) L h m w (xj h m C) (λas r e=>by rwa [ED P]at e) K a};cases a};cases a};{rename_i nd f F x y;refine⟨rfl,?_⟩;split at a;{rename_i c F' A C hy;split at a;{rename_i hF;have W:=cX h m hy;simp[na]at W;simp[nG,W,if_pos hF];exact Dh (cf0:=λ_=>yj nd (cf f)) (f0:=0) L h m w (show Et ρ (c::A.map λb=>.ptr b 0) (gF s x::A.map λb=>.ptr b 0) from ⟨_,_,rfl,cX h m C,O8 A⟩) (λas r e=>by rwa [DS]at e) K a};cases a};cases a};{rename_i f xs;refine⟨rfl,?_⟩;split at a;{rename_i cs C;split at a;{rename_i as es ha;split at a;{rename_i i hi;split at a;{rename_i sg Y;split at a;{rename_i hq;obtain⟨rfl,rfl,P,hd⟩:=hq;split at a;{rename_i ts p hf;cases a;obtain⟨_,h2⟩:=KP (G:=G) hf;intro j σ B;simp[eU]at B;split at B;{rename_i ws hw;split at B;{rename_i X V hg;obtain⟨as,r,v,w1,U,w3,w4⟩:=L i sg Y ws X V hg;obtain⟨t,os,H,g2⟩:=h2 X v U;split at H;{rename_i A q hr;split at H;{rename_i t' os' N;cases H;refine g2 _ (ρ++V) ?_ j σ B;refine w_ λg o=>?_;obtain⟨l,R,Q⟩:=XN (cf:=cf) (mf:=mf) L h m w C ha Y rfl P hd hw hg U hr o;rw[R];obtain⟨τ,T⟩:=oK o;refine K q g l _ _ Q (by rw[T,aZ];exact kS _ m) ?_;rw[tj o,ay,<- w,NJ w3];exact N};cases H};cases H};cases B};cases B};cases a};cases a};cases a};cases a};cases a};cases a};split at a;{rename_i A q hN;split at a;{rename_i t' p N;cases a;have hp:∀g,nL ρ A=Z g->op.ql=J/\∃l,nG cf mf s d op=Z l/\Rel g q l:=λg o=>RX h m w hN o;refine⟨(by cases op<;>first|rfl|cases hN),w_ λg o=>?_⟩;obtain⟨_,l,R,Q⟩:=hp g o;rw[R];obtain⟨τ,T⟩:=oK o;refine K q g l _ _ Q (by rw[T];exact kS _ m) ?_;rw[tj o,<- w];exact N};cases a};cases a
theorem Hp(x:Gok cf kG G)(h:Rel ρ S s)(g:jM ρ kn=Z I)(f:n=ρ.length){op k t outs run}
  (l:∀o b j t outs,Rel b o j->jM b kn=Z I->k o b.length=Z (t,outs)->Fits G t outs b (run j)) (a:Pl hint kG S kn n d op k=Z (t,outs)) :
  Fits G t outs ρ ((D4 cf mf s d op).bind run):=by unfold Pl at a;split at a;{rename_i r;split at a;{rename_i H c w;split at a;{rename_i F e q;cases a;refine w_ λb i=>?_;obtain⟨v,C,B⟩:=Hy h g f w i;obtain⟨p,m⟩:=oK i;simp[D4,r,C,fY];refine l _ b _ _ _ ((m▸h.mono p:Rel b S s).put d (tE.nil B)) (by rw[m];exact kS _ g) ?_;rw[tj i,<- f];exact q};cases a};cases a};obtain⟨A,y⟩:=Pn (mf:=mf) x h g f l a;simp[D4,A,if_false];exact y
theorem aao{gs e c}(h:nL ρ (full S gs e)=Z c):∃a,c=ρ++a/\∃f i,nL ρ e=Z f/\c=f++i:=by obtain⟨a,g⟩:=oK h;refine⟨a,g,?_⟩;cases e with|nil=>{exact⟨ρ,a,rfl,g⟩}|cons b e=>exact⟨c,[],h,by simp⟩
theorem acx(h:Rel ρ S s){gs}(c:agL S gs=I):∃b,jM ρ gs=Z b:=by obtain⟨p,_,a⟩:=fC.1 c;split at a;{rename_i g e;obtain⟨b,f,_⟩:=h.sl _ g e;simp_all};cases a
theorem Tw{gs c b outs run}(f:jM ρ gs=Z I->Fits G c outs ρ run)(e:jM ρ gs=Z J->Fits G b outs ρ run):Fits G (.gd gs c b) outs ρ run:=by intro j a hd;simp[eU]at hd;split at hd;{rename_i h;exact f h j a hd};{rename_i h;exact e h j a hd};cases hd
theorem aaE:∀{a p} {c:Gs},jM ρ a=Z I->p.1.d ρ=Z (.bool (!p.2))->jM ρ (a++p::c)=Z J
 |[],p,c,_,b=>by obtain⟨e,w⟩:=p;simp[jM]at b ⊢;rw[b];cases w<;>rfl
 |(g,v)::a,p,c,h,b=>by have f:=nT h (g,v) (by simp);simp[jM]at f h ⊢;rw[f]at h ⊢;simp at h ⊢;exact aaE h b
theorem CI{l m run full_}(j:∀g {t o},jM ρ g=Z I->jM ρ full_=Z I->l g=Z (t,o)->Fits G t o ρ run)
  (k:∀g {t o},jM ρ g=Z I->jM ρ full_=Z J->m g=Z (t,o)->Fits G t o ρ run):∀{gs pre kn t outs},full_=pre++gs->jM ρ pre=Z I->jM ρ kn=Z I->Hk l m gs kn=Z (t,outs)->Fits G t outs ρ run
 |[],pre,kn,t,outs,i,e,c,a=>j kn c (by rw[i,aG];exact e) a
 |p::A,pre,kn,t,outs,i,e,c,a=>by (have f:full_=(pre++[p])++A:=by rw[i];simp);simp[Hk]at a;split at a;{rename_i F;exact CI j k f (yr e (Jg λq b=>by simp at b;subst b;exact nT c _ F)) c a};split at a;{rename_i L C K B H hB;generalize b:o8 B C=q at a;cases a;obtain⟨y,x⟩:=pN b;refine Tw (λh=>?_) λh=>?_;{exact (CI j k f (yr e h) (yr (gs:=[p]) h c) H).more x};obtain⟨r,v,w⟩:=Fg h;simp at v;subst v;exact Fits.map (k _ (yr (gs:=[(r.1,!r.2)]) (Jg λq b=>by simp at b;subst b;exact w) c) (by rw[i];exact aaE e w) hB) y};cases a
theorem G7{gs o es}{a:Bs}{t r}(h:eU G (DB gs ((o,es)::a) t) 0 ρ=Z r):∃b,jM ρ gs=Z b:=by simp[DB,eU]at h;split at h;{exact⟨_,‹_›⟩};{exact⟨_,‹_›⟩};cases h
theorem ahr(c:Rel ρ S s){gs a t r}(h:eU G (DB gs (full S gs a) t) 0 ρ=Z r):∃b,jM ρ gs=Z b:=by cases a with|nil=>{simp[full]at h;split at h;{exact acx c ‹_›};exact G7 h}|cons b a=>exact G7 h
theorem ahi{g w op}(h:Rel ρ S s)(m:jM ρ kn=Z I){f e}(l:look S.sl g=Z ⟨f,.b (.d e)⟩)(o:(f++[(e,w)]).any (λp=>Z' ((p.1,!p.2)∈kn))=I):
  wL cf mf s ⟨d,op,Z (g,w)⟩=Z (s.put d .wq):=by obtain⟨v,t,r,q⟩:=h.sl g _ l;cases v with|false=>{simp[wL,q rfl]}|true=>obtain⟨p,a,j⟩:=fC.1 o;have k:=nT m _ (of_decide_eq_true j);rcases aX.1 a with a|a;{have:=nT t p a;simp_all};simp at a;subst a;obtain⟨x,c,i⟩:=r rfl;rw[k]at c;cases c;simp only[wL,i];simp_all
theorem Ei(F:Gok cf kG G)(h:Rel ρ S s)(l:jM ρ kn=Z I){i k t outs run}
  (cont:∀{x} (P) (q) (L) (t) (outs),Rel q P L->jM q x=Z I->k P x q.length=Z (t,outs)->Fits G t outs q (run L))
  (a:RT hint kG S kn ρ.length i k=Z (t,outs)):Fits G t outs ρ ((wL cf mf s i).bind run):=by obtain⟨d,op,gd⟩:=i;cases gd with|none=>{simp[RT]at a;exact Hp F h l rfl (run:=run) cont a}|some gw=>obtain⟨g,w⟩:=gw;simp only[RT]at a;split at a;{rename_i y e o;split at a;{rename_i Q;have f:jM ρ (y++[(e,w)])=Z I:=QZ l Q;rw[KL h o f,if_pos rfl];exact Hp F h l rfl (run:=run) cont a};split at a;{rename_i U;rw[ahi h l o U,fY];exact cont _ _ _ _ _ (h.put d (Sp rfl)) l a};split at a;{rename_i R;split at a;{rename_i bs c V;split at a;{rename_i t' A C;cases a;intro j K hd;obtain⟨b,f⟩:=ahr h hd;obtain⟨m,r,N,H⟩:=Ea f hd;rw[KL h o f];(have p:ρ.length+(full S (y++[(e,w)]) bs).length=(ρ++m).length:=by rw[ay,r]);rw[p]at C;cases b with|true=>{obtain⟨_,_,Yt,X9,Y,X⟩:=aao (H rfl);obtain⟨v,e1,e2⟩:=Hy h (yr f l) rfl V Y;simp only[D4,R,e1,fY];exact cont _ _ _ _ _ ((h.mono m).put d ⟨I,kS m f,λ_=>X▸e2.mono X9,λh=>(by cases h)⟩) (kS m l) C j K N}|false=>exact cont _ _ _ _ _ ((h.mono m).put d ⟨J,kS m f,λh=>(by cases h),λ_=>rfl⟩) (kS m l) C j K N};cases a};cases a};refine CI (full_:=y++[(e,w)]) (λx _ _ B f W=>?_) (λx _ _ B f hB=>?_) (pre:=[]) rfl rfl l a;{rw[KL h o f,if_pos rfl];exact Hp F h B rfl (run:=run) cont W};rw[KL h o f,if_neg (by simp),fY];exact cont _ _ _ _ _ (h.put d (Sp rfl)) B hB};{rename_i y o;split at a;{rename_i f;obtain⟨b,r,_,H⟩:=h.sl g _ o;rw[f]at r;cases r;(have T:wL cf mf s ⟨d,op,Z (g,w)⟩=Z (s.put d .wq):=by simp[wL,H rfl]);rw[T,fY];exact cont _ _ _ _ _ (h.put d (Sp rfl)) l a};cases a};cases a
theorem J3(j:Gok cf kG G){a}:∀{b S kn ρ s t outs},Rel ρ S s->jM ρ kn=Z I->Hx hint kG a b S kn ρ.length=Z (t,outs)->
  Fits G t outs ρ (nrm a (nP cf mf b s))
 |[],S,kn,ρ,s,t,outs,h,f,c=>by simp[Hx]at c;exact vV (h.ey a) f c
 |i::b,S,kn,ρ,s,t,outs,h,f,c=>by have g:nrm a (nP cf mf (i::b) s)=(wL cf mf s i).bind λe=>nrm a (nP cf mf b e):=by{simp[nP];cases wL cf mf s i<;>rfl};rw[g];simp[Hx]at c;exact Ei j h f (run:=λe=>nrm a (nP cf mf b e)) (λp o e t outs m l k=>J3 j m l k) c
end
def KO.Xw:KO->M KX
 | .st _ x y=>[x,y]
 | .vX _ _ xs=>xs
 | .app _ _ _ x y=>[x,y]
 | .call _ xs=>xs
 | .MP _ _ _ x y=>[x,y]
 | .Kv _ x _=>[x]
 | .jn x _=>[x]
 |_=>[]
def nV(s:St):C->M Nat
 | .ptr b _=>b::rowsOf ((look s.bx b).getD [])
 | .pG r _ _ _=>[r]
 | .fn _ a=>a.flatMap λb=>b::rowsOf ((look s.bx b).getD [])
 |c=>rowsOf c.cells
def wQ s c:∀q∈rowsOf c.cells,q∈nV s c:=by intro q h;cases c<;>first|exact h|(simp[C.cells,rowsOf]at h)
def D7 s c:∀q∈rowsOf [c],q∈nV s c:=by intro q h;cases c<;>first|exact h|(simp[rowsOf]at h)
theorem Aj s(f:C->M Nat)(k:∀c,∀q∈f c,q∈nV s c)(g:M C->M Nat)(d:g []=[])(b:∀c e,g (c::e)=f c++g e):∀(a:M KX),∀q∈g (a.map (gF s)),∃x∈a,q∈nV s (gF s x)
 |[],q,h=>by simp[d]at h
 |x::a,q,h=>by rw[bz,b]at h;rcases aX.1 h with h|h;{simp_all};obtain⟨y,i,j⟩:=Aj s f k g d b a q h;exact⟨y,by simp[i],j⟩
theorem X6(s:St)(d:u Nat)(op:KO):∀q∈gr s d op,q∈d.toList\/∃x∈op.Xw,q∈nV s (gF s x):=by intro q h;cases op with|st n x y=>{simp only[gr]at h;split at h;{rename_i b o e;simp only[ct]at h;exact .inr ⟨x,by simp[KO.Xw],by rw[e];simp[nV,h]⟩};{rename_i r k i o e;rcases aU.1 h with h|h;{exact .inr ⟨x,by simp[KO.Xw],by rw[e];simp[nV,h]⟩};exact .inr ⟨y,by simp[KO.Xw],wQ s _ q h⟩};cases h}|vX k G m=>{simp only[gr]at h;rcases aX.1 h with h|h;{exact .inl h};exact .inr (Aj s (λc=>rowsOf c.cells) (wQ s) AQ rfl (λ_ _=>rfl) m q h)}|app k K G x y=>{simp only[gr]at h;rcases aX.1 h with h|h;{rcases aX.1 h with h|h;{exact .inl h};exact .inr ⟨x,by simp[KO.Xw],D7 s _ q h⟩};exact .inr ⟨y,by simp[KO.Xw],D7 s _ q h⟩}|call f m=>{simp only[gr,qV]at h;rcases aX.1 h with h|h;{rcases aX.1 h with h|h;{refine .inr (Aj s (λc=>match c with | .ptr b _=>[b]|_=>[]) (λc q h=>?_) cG rfl (λc p=>by cases c<;>rfl) m q h);split at h;{simp only[ct]at h;simp[nV,h]};cases h};refine .inr (Aj s (oG s) (λc q h=>?_) (dx s) rfl (λc p=>rfl) m q h);unfold oG at h;split at h;{simp only[nV,aU];exact .inr h};cases h};exact .inr (Aj s (λc=>rowsOf c.cells) (wQ s) iq rfl (λ_ _=>rfl) m q h)}|MP A f F x y=>{simp only[gr]at h;split at h;{rename_i D g B;simp only[qV]at h;have v:∀q∈cG (g.map λb=>C.ptr b 0)++dx s (g.map λb=>C.ptr b 0)++iq (g.map λb=>C.ptr b 0),q∈nV s (.fn D g):=by{clear h B;simp only[nV];induction g with|nil=>{intro q h;simp[cG,dx,iq]at h}|cons b g t=>intro q h;simp only[bz,cG,dx,oG,iq,C.cells,rowsOf,au,aX,aU,fe]at h t ⊢;rcases h with ((h|h)|h|h)|h;{exact .inl (.inl h)};{exact .inr (t q (.inl (.inl h)))};{exact .inl (.inr h)};{exact .inr (t q (.inl (.inr h)))};exact .inr (t q (.inr h))};have e:∀q∈cG [gF s x]++oG s (gF s x)++rowsOf (gF s x).cells,q∈nV s (gF s x):=by{intro q h;rcases aX.1 h with h|h;{rcases aX.1 h with h|h;{cases w:gF s x<;>rw[w]at h<;>simp[cG]at h;simp[nV,h]};unfold oG at h;split at h;{rename_i w;rw[w];simp only[nV,aU];exact .inr h};cases h};exact wQ s _ q h};(have H:∀p,cG (gF s x::p)=cG [gF s x]++cG p:=λp=>by cases gF s x<;>rfl);rw[H (g.map λb=>C.ptr b 0)]at h;simp only[dx,iq,aX]at h;simp only[aX]at e v;have j:q∈nV s (gF s x)->q∈d.toList\/∃a∈KO.Xw (.MP A f F x y),q∈nV s (gF s a):=λh=>.inr ⟨x,by simp[KO.Xw],h⟩;have l:q∈nV s (.fn D g)->q∈d.toList\/∃a∈KO.Xw (.MP A f F x y),q∈nV s (gF s a):=λh=>.inr ⟨y,by simp[KO.Xw],by rw[B];exact h⟩;rcases h with ((h|h)|h|h)|h|h;{exact j (e q (.inl (.inl h)))};{exact l (v q (.inl (.inl h)))};{exact j (e q (.inl (.inr h)))};{exact l (v q (.inl (.inr h)))};{exact j (e q (.inr h))};exact l (v q (.inr h))};cases h}|Kv k x y=>{simp only[gr]at h;rcases aX.1 h with h|h;{exact .inl h};exact .inr ⟨x,by simp[KO.Xw],D7 s _ q h⟩}|jn x y=>{simp only[gr]at h;rcases aX.1 h with h|h;{exact .inl h};exact .inr ⟨x,by simp[KO.Xw],D7 s _ q h⟩}|_=>exact .inl h
def To(S:SS):M Nat->u (M Nat)
 |[]=>Z []
 |b::c=>match look S.bx b with
  |some a=>if a.all SB.cell=I then (To S c).map λl=>b::gG a++l else O
  |none=>O
def VZ(S:SS):SC->u (M Nat)
 | .b x=>if x.cell=I then Z (gG [x]) else O
 | .agg a=>if a.all SB.cell=I then Z (gG a) else O
 | .ptr b _=>match look S.bx b with
  |some a=>if a.all SB.cell=I then Z (b::gG a) else O
  |none=>O
 | .pG r _ _ _=>Z [r]
 | .vc _ _=>Z []
 | .tv _=>Z []
 | .fn _ c=>To S c
 | .any=>O
def adZ(S:SS):KX->u (M Nat)
 | .s d=>match look S.sl d with
  |some g=>if g.gs=PN.gs then Z [] else VZ S g.c
  |none=>O
 |x=>match gy S [] x with
  |some c=>VZ S c
  |none=>O
def Gz(S:SS)(a:Gs):KO->u (u Nat)
 | .ld _ x=>match gy S a x with
  |some (.ptr b _)=>Z (Z b)
  |some (.vc _ _)=>Z O
  |_=>O
 | .Qt _=>O
 |_=>Z O
def Ri(S:SS)(c:Gs)(i:KI):u (u Nat):=
 match i.gd with
 |none=>Gz S c i.op
 |some (g,w)=>match look S.sl g with
  |some ⟨a,.b (.d e)⟩=>if (a++[(e,w)]).any (λp=>Z' ((p.1,!p.2)∈c))=I then Z O else Gz S ((a++[(e,w)])++c) i.op
  |some ⟨a,.any⟩=>if a=PN.gs then Z O else O
  |_=>O
def aeN(S:SS)(a:M (M Nat×Nat))(i:KI):Bool:=
 a.all (λp=>!(i.dst ==Z p.2)) && i.op.Xw.all λx=>match adZ S x with
  |some l=>a.all λp=>!l.contains p.2
  |none=>a.isEmpty
def SB.zu:SB->Bool
 | .any=>J
 |_=>I
def Vi:M (SB ⊕ M SB)->Bool
 |[]=>I
 | .inl x::xs=>x.zu && Vi xs
 | .inr l::xs=>l.all SB.zu && Vi xs
def SC.zu:SC->Bool
 | .b x=>x.zu
 | .agg xs=>xs.all SB.zu
 | .tv xs=>Vi xs
 | .any=>J
 |_=>I
def aha(a:zA)(S:SS):Bool:=
 a.s.all (λd=>match look S.sl d with
  |some g=>g.c.zu ||decide (g.gs=PN.gs)
  |none=>J) && a.b.all (λb=>match look S.bx b with
  |some e=>e.all SB.zu
  |none=>J) && a.r.all λr=>(look S.rw r).isSome
def AW(hint:M Nat)(d:M (Nat×pe))(g:zA):KT->M (M Nat×Nat)->SS->Gs->Nat->u (ST×M SO)
 | .nil,_,S,c,n=>Z (GA O c (S.ey g))
 | .alt ⟨j,_,_,_,i⟩ is r,a,S,c,n=>
  if aeN S (kC j a) i=I then (match RT hint d S c n i (λe k h=>
    if (kC j a).all (λp=>(look e.bx p.2).isSome)=I then AW hint d g is (kC j a) e k h else O),AW hint d g r a S c n with
   |some (m,t),Z (l,s)=>match o8 s t with
    |(f,outs)=>if outs.all (λo=>aha g o.S)=I then Z (.both m (OO f l),outs) else O
   |_,_=>O) else O
 | .op ⟨j,q,w,v,i⟩ is,a,S,c,n=>
  if q=I then (if i.op.ql=I then (match Ri S c i with
   |some b=>RT hint d S c n i (λe k h=>AW hint d g is (qq v a b) e k h)
   |none=>O) else O)
  else if aeN S (kC j a) i=I then RT hint d S c n i (λe k h=>
   if (kC j a).all (λp=>(look e.bx p.2).isSome)=I then AW hint d g is (kC j a) e k h else O) else O
section
variable {ρ:M D} {S:SS} {s:St} {G:Gf} {cf:Cf} {mf:Mf} {kG:M (Nat×pe)} {hint:M Nat} {n:Nat} {d:u Nat} {kn:Gs}
theorem N8(h:Rel ρ S s):∀{e l},To S e=Z l->∀q∈e.flatMap λb=>b::rowsOf ((look s.bx b).getD []),q∈l
 |[],l,c,q,a=>by simp at a
 |b::e,l,c,q,a=>by simp only[To]at c;split at c;{rename_i f i;split at c;{rename_i g;obtain⟨o,m,rfl⟩:=aC.1 c;obtain⟨p,k,j⟩:=h.bx b f i;rw[fe,k,cL,mE j g]at a;rcases aX.1 a with a|a;{exact aX.2 (.inl a)};exact aX.2 (.inr (N8 h m q a))};cases c};cases c
theorem TI(h:Rel ρ S s){c v l}(g:na ρ c v)(a:VZ S c=Z l):∀q∈nV s v,q∈l:=by intro q f;cases c with|b x=>{simp only[VZ]at a;split at a;{rename_i j;cases a;cases x with|d e=>{obtain⟨y,_,rfl⟩:=g;simp[nV,C.cells,rowsOf]at f}|nil k H=>{cases g;simp[nV,C.cells,rowsOf]at f}|ref r=>{cases g;simpa [nV,C.cells,rowsOf,gG] using f}|any=>cases j};cases a}|agg t=>{simp only[VZ]at a;split at a;{rename_i j;cases a;obtain⟨w,rfl,p⟩:=g;simp[nV,C.cells]at f;rwa [mE p j]at f};cases a}|tv t=>{obtain⟨w,rfl,p⟩:=g;simp[nV,C.cells,rowsOf]at f}|ptr b o=>{cases g;simp only[VZ]at a;split at a;{rename_i t A;split at a;{rename_i j;cases a;obtain⟨w,p,B⟩:=h.bx b t A;simp only[nV,p,cL]at f;rwa [mE B j]at f};cases a};cases a}|pG r k i o=>{obtain⟨m,_,rfl⟩:=g;cases a;exact f}|vc i o=>{obtain⟨x,w,_,_,rfl⟩:=g;simp[nV,C.cells,rowsOf]at f}|fn F K=>{cases g;exact N8 h a q f}|any=>cases a
theorem ad0(h:Rel ρ S s){x l}(a:adZ S x=Z l):∀q∈nV s (gF s x),q∈l:=by cases x with|s d=>{simp[adZ]at a;split at a;{rename_i g m;obtain⟨b,i,p,f⟩:=h.sl d g m;split at a;{rename_i j;rw[j]at i;cases i;intro q e;simp only[gF,f rfl,rowsOf]at e;cases e};cases b with|true=>{exact TI h (p rfl) a}|false=>intro q e;simp only[gF,f rfl,rowsOf]at e;cases e};cases a}|k c=>simp[adZ]at a;split at a;{rename_i r o;exact TI h (cX h (gs:=[]) rfl o) a};cases a
theorem Uo(h:Rel ρ S s){e i}(f:aeN S e i=I):∀p∈e,(!(gr s i.dst i.op).contains p.2)=I/\(!(i.dst ==Z p.2))=I:=by intro p c;simp only[aeN,aw,bF]at f;obtain⟨g,t⟩:=f;refine⟨?_,g p c⟩;rw[dm,dQ];intro o;rcases X6 s i.dst i.op p.2 (by simpa using o) with hd|⟨x,j,k⟩;{have:=g p c;simp_all};have:=t x j;split at this;{rename_i l m;have r:=bF.1 this p c;have q:=ad0 h m _ k;simp[q]at r};cases e with|nil=>{cases c}|cons a b=>cases this
theorem Xb(h:Rel ρ S s){gs}(f:jM ρ gs=Z I){op b}(a:Gz S gs op=Z b):rj s op=Z b:=by cases op with|ld n x=>{simp[Gz]at a;split at a;{rename_i j o c;cases a;have:=cX h f c;simp[na]at this;simp[rj,this]};{rename_i i o c;cases a;obtain⟨x,g,_,_,e⟩:=cX h f c;simp[rj,e]};cases a}|_=>exact a
theorem ab8(h:Rel ρ S s)(B:jM ρ kn=Z I){kp j al dn i is tk b}(a:i.op.ql=I)(k:Ri S kn i=Z b):
  ∃l,(∀p∈l,p∈qq dn tk b)/\iw cf mf kp (.op ⟨j,I,al,dn,i⟩ is) tk s=(wL cf mf s i).bind (iw cf mf kp is l):=by
 have f:∀p∈tk,p∈qq dn tk b:=by{intro p a;unfold qq;split;{exact eb _ a};exact a}
 have m:∀{gs},jM ρ gs=Z I->Gz S gs i.op=Z b->(match jw s i.op,rj s i.op with
   |some c,Z b=>iw cf mf kp is (qq dn tk b) (s.put i.dst c)
   |_,_=>O)=(D4 cf mf s i.dst i.op).bind (iw cf mf kp is (qq dn tk b)):=by
  intro gs y o;rw[Xb h y o];simp[D4,a];cases jw s i.op<;>rfl
 obtain⟨d,op,gd⟩:=i;cases gd with|none=>{refine⟨_,λp a=>a,?_⟩;simp[wL];exact m B k}|some gw=>obtain⟨g,w⟩:=gw;simp only[Ri]at k;simp only[iw,wL];cases r:s.get g with|d x=>{cases x with|bool t=>{simp only;by_cases K:t=w;{subst K;simp only[if_true];refine⟨_,λp a=>a,?_⟩;split at k;{rename_i U e o;obtain⟨L,A,T,C⟩:=h.sl g _ o;cases L with|false=>{rw[C rfl]at r;cases r}|true=>obtain⟨x,P,H⟩:=T rfl;rw[r]at H;cases H;have y:=yr A (Jg (gs:=[(e,t)]) λq v=>by simp at v;subst v;exact P);split at k;{rename_i R;obtain⟨p,a,v⟩:=fC.1 R;have N:=nT y p a;have F:=nT B _ (of_decide_eq_true v);simp only[N]at F;exact absurd F (by cases p.2<;>simp)};exact m (yr y B) k};{rename_i U o;split at k;{rename_i Q;obtain⟨L,A,_,C⟩:=h.sl g _ o;rw[Q]at A;cases A;rw[C rfl]at r;cases r};cases k};cases k};simp only[if_neg K];exact⟨tk,f,rfl⟩}|_=>exact⟨tk,f,rfl⟩}|wq=>{simp only[fY];exact⟨tk,f,rfl⟩}|_=>exact⟨tk,f,rfl⟩
theorem xn{j a b}(h:∀p∈a,p∈b):∀p∈kC j a,p∈kC j b:=λp c=>by obtain⟨f,e⟩:=iy.1 c;exact iy.2 ⟨h p f,e⟩
theorem X2{e b c f}(h:∀p∈c,p∈f):∀p∈qq e c b,p∈qq e f b:=λp a=>by cases b with|none=>{exact h p a}|some b=>rcases aU.1 a with a|a;{exact a▸eo};exact eb _ (h p a)
theorem Ul{a:Type}:∀{l i} {x:a},nth l i=Z x->x∈l
 |y::l,0,x,h=>by cases h;exact eo
 |y::l,i+1,x,h=>eb _ (Ul (l:=l) h)
theorem ox.zu{x c f}(hd:x.zu=I)(h:ox ρ x c)(b:ox ρ x f):c=f:=by cases x with|d e=>{obtain⟨y,i,rfl⟩:=h;obtain⟨a,g,rfl⟩:=b;simp_all}|any=>{cases hd}|_=>simp[ox]at h b;rw[h,b]
theorem ox.ne{x c}(hd:x.zu=I)(h:ox ρ x c):c≠.any:=by cases x with|d e=>{obtain⟨y,a,rfl⟩:=h;intro h;cases h}|any=>{cases hd}|_=>cases h;intro h;cases h
theorem fN.zu:∀{a e b},a.all SB.zu=I->fN ρ a e->fN ρ a b->e=b
 |[],_,_,_,h,f=>by simp[fN]at h f;rw[h,f]
 |x::a,_,_,hd,⟨c,e,j,i,g⟩,⟨o,b,m,l,k⟩=>by simp only[dt,aw]at hd;rw[j,m,i.zu hd.1 l,fN.zu hd.2 g k]
theorem yg.zu:∀{a e b},Vi a=I->yg ρ a e->yg ρ a b->e=b
 |[],_,_,_,h,o=>by simp[yg]at h o;rw[h,o]
 | .inl x::a,_,_,hd,⟨c,e,i,g,f⟩,⟨p,b,m,k,j⟩=>by simp[Vi]at hd;rw[i,m,g.zu hd.1 k,yg.zu hd.2 f j]
 | .inr l::a,_,_,hd,⟨c,e,i,g,f⟩,⟨p,b,m,k,j⟩=>by simp only[Vi,aw]at hd;rw[i,m,g.zu hd.1 k,yg.zu hd.2 f j]
theorem na.zu{x c q}(hd:x.zu=I)(h:na ρ x c)(a:na ρ x q):c=q:=by cases x with|b x=>{exact ox.zu hd h a}|agg t=>{obtain⟨p,rfl,f⟩:=h;obtain⟨g,rfl,e⟩:=a;rw[f.zu hd e]}|tv t=>{obtain⟨p,rfl,f⟩:=h;obtain⟨g,rfl,e⟩:=a;rw[f.zu hd e]}|ptr b o=>{simp[na]at h a;rw[h,a]}|pG r k i o=>{obtain⟨m,f,rfl⟩:=h;obtain⟨w,e,rfl⟩:=a;rw[f]at e;cases e;rfl}|vc i o=>{obtain⟨x,p,f,e,rfl⟩:=h;obtain⟨v,g,l,j,rfl⟩:=a;rw[f]at l;cases l;rw[e]at j;cases j;rfl}|fn F y=>{simp[na]at h a;rw[h,a]}|any=>cases hd
theorem na.ne{x c}(hd:x.zu=I)(h:na ρ x c):c≠.any:=by cases x with|b x=>{exact ox.ne hd h}|agg f=>{obtain⟨e,rfl,a⟩:=h;intro h;cases h}|tv f=>{obtain⟨e,rfl,a⟩:=h;intro h;cases h}|ptr b o=>{cases h;intro h;cases h}|pG r k i o=>{obtain⟨m,a,rfl⟩:=h;intro h;cases h}|vc i o=>{obtain⟨x,e,a,g,rfl⟩:=h;intro h;cases h}|fn F j=>{cases h;intro h;cases h}|any=>cases hd
theorem An{c:Type}(l b:M (Nat×c)):∀a,(∀d∈a,∃x,look l d=Z x/\look b d=Z x)->jk l a=jk b a
 |[],_=>rfl
 |d::a,h=>by obtain⟨x,i,g⟩:=h d (by simp);simp only[jk,i,g,An l b a λe f=>h e (by simp[f])]
theorem aa2{a}{s i:St}(h:Rel ρ S (s.ey a))(t:Rel ρ S (i.ey a))(hd:aha a S=I):s.ey a=i.ey a:=by simp[aha,bF]at hd;obtain⟨⟨L,K⟩,H⟩:=hd;have Q:jk s.sl a.s=jk i.sl a.s:=by{refine An _ _ _ λd k=>?_;have e:=L d k;split at e;{rename_i g w;obtain⟨b,j,o,F⟩:=h.sl d g w;obtain⟨W,m,l,C⟩:=t.sl d g w;rw[j]at m;cases m;have f:(s.ey a).get d=(i.ey a).get d/\(s.ey a).get d≠.any:=by{cases b with|false=>{rw[F rfl,C rfl];exact⟨rfl,by intro h;cases h⟩}|true=>have A:g.c.zu=I:=by{simp at e;rcases e with e|e;{exact e};rw[e]at j;cases j};exact⟨(o rfl).zu A (l rfl),(o rfl).ne A⟩};rw[FC s a k,FC i a k]at f;unfold St.get at f;cases q:look s.sl d with|none=>{rw[q]at f;exact absurd rfl f.2}|some x=>cases B:look i.sl d with|none=>{rw[q,B]at f;exact absurd f.1 (by intro h;rw[h]at f;exact f.2 rfl)}|some y=>rw[q,B]at f;exact⟨x,rfl,by rw[show y=x from f.1.symm]⟩};cases e};have P:jk s.bx a.b=jk i.bx a.b:=by{refine An _ _ _ λd k=>?_;have e:=K d k;split at e;{rename_i v p;obtain⟨R,j,o⟩:=h.bx d v p;obtain⟨V,m,l⟩:=t.bx d v p;have:=o.zu e l;subst this;exact⟨R,(ju _ _ j).1,(ju _ _ m).1⟩};cases e};have N:jk s.rw a.r=jk i.rw a.r:=by{refine An _ _ _ λd k=>?_;obtain⟨x,p⟩:=cu.1 (H d k);obtain⟨y,j,es,o,rfl⟩:=h.rw d x p;obtain⟨T,m,U,l,rfl⟩:=t.rw d x p;rw[o]at l;cases l;exact⟨_,(ju _ _ j).1,(ju _ _ m).1⟩};simp[St.ey,Q,P,N]
theorem Y8{c:Type}{a b}{r:c}(h:both a b=Z r):a=Z r:=by unfold both at h;grind
theorem mT{f}:∀{e c s b},iw cf mf f e c s=Z b->∃g:St,b=g.ey f
 | .nil,c,s,b,h=>by simp[iw]at h;exact⟨s,h.symm⟩
 | .op ⟨j,q,l,k,i⟩ e,c,s,b,h=>by simp[iw]at h;split at h;{split at h;{split at h;{exact mT h};cases h};split at h;{split at h;{split at h;{exact mT h};cases h};exact mT h};{exact mT h};cases h};simp[nE]at h;split at h;{split at h;{exact mT h};cases h};cases h
 | .alt x e r,c,s,b,h=>by simp[iw]at h;have a:=Y8 h;simp[nE]at a;split at a;{split at a;{exact mT a};cases a};cases a
theorem wo(B:Gok cf kG G){kp}:∀{is tk R S kn ρ s t outs},(∀p∈tk,p∈R)->Rel ρ S s->jM ρ kn=Z I->AW hint kG kp is R S kn ρ.length=Z (t,outs)->
  Fits G t outs ρ (P9 (iw cf mf kp is tk s))
 | .nil,tk,R,S,kn,ρ,s,t,outs,l,h,m,e=>by simp[AW]at e;exact vV (h.ey kp) m e
 | .alt ⟨j,q,al,dn,i⟩ is r,tk,R,S,kn,ρ,s,t,outs,l,h,m,e=>by simp only[AW]at e;split at e;{rename_i X;split at e;{rename_i ta oa tb ob hA hB;generalize x:o8 ob oa=q at e;obtain⟨f,V⟩:=q;simp only at e;split at e;{rename_i aqK;cases e;obtain⟨q1,q2⟩:=pN x;have fA:Fits G ta oa ρ (P9 (nE cf mf ⟨j,q,al,dn,i⟩ tk s (iw cf mf kp is))):=by{have W:=Uo h X;have g:P9 (nE cf mf ⟨j,q,al,dn,i⟩ tk s (iw cf mf kp is))=(wL cf mf s i).bind λc=>if (kC j tk).all (λp=>!(gr s i.dst i.op).contains p.2 && (look c.bx p.2).isSome && !(i.dst ==Z p.2))=I then P9 (iw cf mf kp is (kC j tk) c) else O:=by{simp[nE];cases wL cf mf s i with|none=>{rfl}|some c=>simp;split<;>rfl};rw[g];refine Ei B h m (run:=λc=>if (kC j tk).all (λp=>!(gr s i.dst i.op).contains p.2 && (look c.bx p.2).isSome && !(i.dst ==Z p.2))=I then P9 (iw cf mf kp is (kC j tk) c) else O) (λS' jK c t outs C K k=>?_) hA;split at k;{rename_i A;have Y:(kC j tk).all (λp=>!(gr s i.dst i.op).contains p.2 && (look c.bx p.2).isSome && !(i.dst ==Z p.2))=I:=by{rw[bF];intro p y;have T:=xn (j:=j) l p y;obtain⟨P,N⟩:=W p T;have h3:=bF.1 A p T;have h4:(look c.bx p.2).isSome=I:=by{obtain⟨U,w⟩:=cu.1 h3;obtain⟨cs,Du,_⟩:=C.bx p.2 U w;rw[Du];rfl};rw[P,N,h4];rfl};rw[if_pos Y];exact wo B (xn l) C K k};cases k};have fB:=wo B l h m hB;intro j' σ hd;simp[eU]at hd;obtain⟨d1,d2⟩:=Y7 hd;obtain⟨o,sA,g1,Q,g3,g4⟩:=fA.more q2 j' σ d1;obtain⟨o',sB,w1,H,w3,w4⟩:=fB.map q1 j' σ d2;rw[g1]at w1;cases w1;have hA':∃a,nE cf mf ⟨j,q,al,dn,i⟩ tk s (iw cf mf kp is)=Z a:=by{cases w:nE cf mf ⟨j,q,al,dn,i⟩ tk s (iw cf mf kp is) with|none=>{rw[w]at Q;cases Q}|some a=>exact⟨a,rfl⟩};have hB':∃b,iw cf mf kp r tk s=Z b:=by{cases w:iw cf mf kp r tk s with|none=>{rw[w]at H;cases H}|some a=>exact⟨a,rfl⟩};obtain⟨a,A⟩:=hA';obtain⟨b,L⟩:=hB';have ka:∃s0:St,a=s0.ey kp:=by{have F:=A;simp[nE]at F;split at F;{split at F;{exact mT F};cases F};cases F};obtain⟨a0,rfl⟩:=ka;obtain⟨b0,rfl⟩:=mT L;rw[A]at Q;rw[L]at H;simp[P9,cH]at Q H;obtain⟨ex,rfl⟩:=Q;obtain⟨_,rfl⟩:=H;have he:=aa2 g4 w4 (bF.1 aqK o (Ul g1));refine⟨o,_,g1,?_,g3,g4⟩;simp[iw,A,L,both,he,P9,ex]};cases e};cases e};cases e
 | .op ⟨j,q,al,dn,i⟩ is,tk,R,S,kn,ρ,s,t,outs,l,h,m,e=>by simp[AW]at e;split at e;{rename_i x;subst x;split at e;{rename_i y;split at e;{rename_i b L;obtain⟨v,P,N⟩:=ab8 (cf:=cf) (mf:=mf) (kp:=kp) (j:=j) (al:=al) (dn:=dn) (is:=is) (tk:=tk) h m y L;rw[N];(have g:P9 ((wL cf mf s i).bind (iw cf mf kp is v))=(wL cf mf s i).bind λc=>P9 (iw cf mf kp is v c):=by cases wL cf mf s i<;>rfl);rw[g];exact Ei B h m (run:=λc=>P9 (iw cf mf kp is v c)) (λS' jK c t outs C K k=>wo B (λp y=>X2 l p (P p y)) C K k) e};cases e};cases e};rename_i x;have x:q=J:=by{cases q with|false=>{rfl}|true=>exact absurd rfl x};subst x;split at e;{rename_i X;have W:=Uo h X;have g:P9 (iw cf mf kp (.op ⟨j,J,al,dn,i⟩ is) tk s)=(wL cf mf s i).bind λc=>if (kC j tk).all (λp=>!(gr s i.dst i.op).contains p.2 && (look c.bx p.2).isSome && !(i.dst ==Z p.2))=I then P9 (iw cf mf kp is (kC j tk) c) else O:=by{simp[iw,nE,if_false];cases wL cf mf s i with|none=>{rfl}|some c=>simp;split<;>rfl};rw[g];refine Ei B h m (run:=λc=>if (kC j tk).all (λp=>!(gr s i.dst i.op).contains p.2 && (look c.bx p.2).isSome && !(i.dst ==Z p.2))=I then P9 (iw cf mf kp is (kC j tk) c) else O) (λS' jK c t outs C K k=>?_) e;split at k;{rename_i A;have Y:(kC j tk).all (λp=>!(gr s i.dst i.op).contains p.2 && (look c.bx p.2).isSome && !(i.dst ==Z p.2))=I:=by{rw[bF];intro p y;have T:=xn (j:=j) l p y;obtain⟨P,N⟩:=W p T;have h3:=bF.1 A p T;have h4:(look c.bx p.2).isSome=I:=by{obtain⟨U,w⟩:=cu.1 h3;obtain⟨cs,Du,_⟩:=C.bx p.2 U w;rw[Du];rfl};rw[P,N,h4];rfl};rw[if_pos Y];exact wo B (xn l) C K k};cases k};cases e
end
def adK{a:Type}(k:a->u (ST×M SO)):M a->M SO->u (ST×M SO)
 |[],acc=>Z (.nil,acc)
 |v::vs,acc=>match k v with
  |some (t,os)=>match o8 os acc with
   |(f,d)=>match adK k vs d with
    |some (b,c)=>Z (.cons (OO f t) b,c)
    |none=>O
  |none=>O
def J6:Nat->Nat->M SE
 |_,0=>[]
 |c,m+1=>.v c::J6 (c+1) m
def idO(o:SO):ST×M SO:=(.leaf 0 (J6 0 o.m),[o])
def Nh(id:Nat)(o:SO):SO:=if o.x=Z (Z id) then {o with x:=O } else o
def zQ:M SO->M SO->M SO->M Nat×M SO×M SO
 |[],b,outs=>([],b,outs)
 |o::os,b,outs=>if o.x=O then (match HY o b with
   |(j,c)=>match zQ os c outs with
    |(f,r)=>(2 * j::f,r))
  else match HY o outs with
   |(j,a)=>match zQ os b a with
    |(f,r)=>((2 * j+1)::f,r)
def T9(k:SS->Nat->u (ST×M SO)):Nat->Nat->M SO->M SO->u (ST×M SO×M SO)
 |0,_,_,_=>O
 |fuel+1,i,b,outs=>match nth b i with
  |none=>Z (.nil,b,outs)
  |some o=>match k o.S o.m with
   |some (t,os)=>match zQ os b outs with
    |(f,d,a)=>match T9 k fuel (i+1) d a with
     |some (c,r)=>Z (.cons (.map f t) c,r)
     |none=>O
   |none=>O
def ag9(S:SS):SB->SB
 | .ref r=>match look S.rw r with
  |some x=>.d x.e
  |none=>.any
 | .nil k a=>.d (.k (.nil k a))
 |x=>x
def kn0:Gs:=[(.k (.bool I),I),(.k (.bool J),J)]
def pD(hint:M Nat)(g:M (Nat×pe)):K->SS->Nat->u (ST×M SO)
 | .skip,S,_=>Z (GA O [] S)
 | .exit id,S,_=>Z (GA (Z (Z id)) [] S)
 | .ret,S,_=>Z (GA (Z O) [] S)
 | .Uz ops q,S,m=>Hx hint g q ops S kn0 m
 | .ZH ops q,S,m=>AW hint g q ops [] S kn0 m
 | .seq a b,S,m=>match pD hint g a S m with
  |some (n,p)=>match adK (λo=>if o.x=O then pD hint g b o.S o.m else Z (idO o)) p []with
   |some (l,outs)=>Z (.seq n l,outs)
   |none=>O
  |none=>O
 | .cond c a b,S,m=>match sD (gy S [] c),pD hint g a S m,pD hint g b S m with
  |some e,Z (n,p),Z (s,v)=>match o8 v p with
   |(f,outs)=>Z (.gd [(e,I)] n (OO f s),outs)
  |_,_,_=>O
 | .block id a,S,m=>match pD hint g a S m with
  |some (t,outs)=>match o8 (outs.map (Nh id)) []with
   |(f,h)=>Z (OO f t,h)
  |none=>O
 | .share r a,S,m=>match oX S [r]with
  |some i=>pD hint g a i m
  |none=>O
 | .DV d a,S,m=>match look S.sl d with
  |some ⟨[],.b (.ref r)⟩=>match look S.rw r with
   |some x=>pD hint g a ((S.setRow r x.share).put (Z d) ⟨[],.b (.d x.e)⟩) m
   |none=>O
  |some ⟨[],.b (.d _)⟩=>pD hint g a S m
  |some ⟨[],.b (.nil k w)⟩=>pD hint g a (S.put (Z d) ⟨[],.b (.d (.k (.nil k w)))⟩) m
  |some ⟨[],.ptr b 0⟩=>match look S.bx b with
   |some j=>match oX S (gG j) with
    |some i=>if j.all SB.cell=I then pD hint g a (i.gB b (j.map (ag9 S))) m else O
    |none=>O
   |none=>O
  |_=>O
 | .loop a,S,m=>match Vb [] S with
  |(i,es)=>match T9 (pD hint g a) 40 0 [⟨O,i,es.length⟩] []with
   |some (l,_,outs)=>Z (.loop 0 es l,outs)
   |none=>O
section
variable {ρ:M D} {S:SS} {s:St} {G:Gf} {T:Nat->u KF} {mf:Mf} {kG:M (Nat×pe)} {hint:M Nat}
theorem Tj{n:Type}{k}:∀{vs:M n} {acc a b},adK k vs acc=Z (b,a)->
  (∀i x,nth acc i=Z x->nth a i=Z x)/\∀j v,nth vs j=Z v->∃t os,k v=Z (t,os)/\∀run ρ,Fits G t os ρ run->YB G b j a ρ run
 |[],acc,a,b,h=>by cases h;exact⟨λ_ _ e=>e,λj v B=>(by cases B)⟩
 |v::vs,acc,a,b,h=>by simp[adK]at h;split at h;{rename_i t os H;generalize C:o8 os acc=q at h;obtain⟨f,V⟩:=q;split at h;{rename_i p U K;cases h;obtain⟨P,N⟩:=pN C;obtain⟨m,L⟩:=Tj K;refine⟨λi x e=>m i x (N i x e),λj w l=>?_⟩;cases j with|zero=>{cases l;refine⟨t,os,H,λrun ρ g i c hd=>?_⟩;have:=g.map (f:=f) (outs':=a) (λi o F=>by obtain⟨j,A,y⟩:=P i o F;exact⟨j,A,m j o y⟩);exact this i c hd}|succ j=>obtain⟨r,d,R,Q⟩:=L j w l;exact⟨r,d,R,λrun ρ g i c hd=>Q run ρ g i c hd⟩};cases h};cases h
theorem PQ:∀{σ σ0},jq (σ0++σ) (J6 σ0.length σ.length)=Z σ
 |[],_=>rfl
 |x::σ,σ0=>by have a:SE.d (σ0++x::σ) (.v σ0.length)=Z x:=kt σ0 x σ;have b:=PQ (σ:=σ) (σ0:=σ0++[x]);simp only[aN,J6,jq,a];simp_all
theorem ahS{o}(a:ρ.length=o.m)(h:Rel ρ o.S s):Fits G (idO o).1 (idO o).2 ρ (Z (Vr o.x,s)):=by intro j σ hd;simp[idO,eU]at hd;have:=PQ (σ:=ρ) (σ0:=[]);simp[a]at this;rw[this]at hd;cases hd;exact⟨o,s,rfl,rfl,a,h⟩
theorem KA:∀{os e outs f g a},zQ os e outs=(f,g,a)->
  (∀i x,nth e i=Z x->nth g i=Z x)/\(∀i x,nth outs i=Z x->nth a i=Z x)/\
  ∀i o,nth os i=Z o->∃c,nth f i=Z c/\if o.x=O then (∃j,c=2 * j/\nth g j=Z o) else ∃j,c=2 * j+1/\nth a j=Z o
 |[],e,outs,f,g,a,h=>by cases h;exact⟨λ_ _ h=>h,λ_ _ h=>h,λi o B=>(by cases B)⟩
 |o::os,e,outs,f,g,a,h=>by simp[zQ]at h;split at h;{rename_i b;generalize r:HY o e=q at h;obtain⟨j,F⟩:=q;generalize d:zQ os F outs=q at h;obtain⟨C,n,y⟩:=q;cases h;obtain⟨w,v⟩:=DN o r;obtain⟨m,l,t⟩:=KA d;refine⟨λi x b=>m i x (v i x b),l,λi p k=>?_⟩;cases i with|zero=>{cases k;exact⟨2 * j,rfl,by rw[if_pos b];exact⟨j,rfl,m j _ w⟩⟩}|succ i=>exact t i p k};rename_i b;generalize r:HY o outs=q at h;obtain⟨j,A⟩:=q;generalize d:zQ os e A=q at h;obtain⟨C,n,y⟩:=q;cases h;obtain⟨w,v⟩:=DN o r;obtain⟨m,l,t⟩:=KA d;refine⟨m,λi x b=>l i x (v i x b),λi p k=>?_⟩;cases i with|zero=>{cases k;exact⟨2 * j+1,rfl,by rw[if_neg b];exact⟨j,rfl,l j _ w⟩⟩}|succ i=>exact t i p k
theorem ON{k}:∀{d i g outs H a n},T9 k d i g outs=Z (n,H,a)->
  (∀j x,nth g j=Z x->nth H j=Z x)/\(∀j x,nth outs j=Z x->nth a j=Z x)/\
  ∀j o,nth H (i+j)=Z o->∃t os f,k o.S o.m=Z (t,os)/\(∀ρ,eU G n j ρ=eU G (.map f t) 0 ρ)/\∀l b,nth os l=Z b->∃c,nth f l=Z c/\if b.x=O then (∃j,c=2 * j/\nth H j=Z b) else ∃j,c=2 * j+1/\nth a j=Z b
 |0,_,_,_,_,_,_,h=>by cases h
 |d+1,i,g,outs,H,a,n,h=>by simp[T9]at h;split at h;{rename_i hn;cases h;refine⟨λ_ _ h=>h,λ_ _ h=>h,λj o F=>?_⟩;exfalso;have N:=Cu F;have L:∀{l:M SO} {i},nth l i=O->l.length<=i:=by{intro l;induction l with|nil=>{intro i _;exact bI _}|cons x l W=>intro i P;cases i with|zero=>{cases P}|succ i=>have:=W (i:=i) P;simp;omega};have:=L hn;omega};rename_i o F;split at h;{rename_i t os hk;generalize Y:zQ os g outs=q at h;obtain⟨f,sC,A⟩:=q;split at h;{rename_i R r X;cases h;obtain⟨N,L,h3⟩:=KA Y;obtain⟨K,Q,h6⟩:=ON X;refine⟨λj x e=>K j x (N j x e),λj x e=>Q j x (L j x e),λj p C=>?_⟩;cases j with|zero=>{rw[dY,K i o (N i o F)]at C;cases C;refine⟨t,os,f,hk,λρ=>rfl,λl b hl=>?_⟩;obtain⟨c,V,y⟩:=h3 l b hl;refine⟨c,V,?_⟩;split at y;{rename_i e;rw[if_pos e];obtain⟨j,w,v⟩:=y;exact⟨j,w,K j b v⟩};rename_i e;rw[if_neg e];obtain⟨j,w,v⟩:=y;exact⟨j,w,Q j b v⟩}|succ j=>obtain⟨U,B,f',g1,g2,g3⟩:=h6 j p (by rw[ij,Nat.add_comm 1 j];exact C);exact⟨U,B,f',g1,λρ=>g2 ρ,g3⟩};cases h};cases h
theorem acY{g}{x:SX}{s}(h:x≠O):PF g (Z (Vr x,s))=Z (Vr x,s):=by cases x with|none=>{exact absurd rfl h}|some y=>cases y<;>rfl
theorem akW{id o s}:blk id (Z (Vr o.x,s))=Z (Vr (Nh id o).x,s):=by unfold Nh;split;{rename_i h;rw[h];simp[Vr,blk]};rename_i h;rcases a:o.x with _|_|i;{rfl};{rfl};(have:i≠id:=by rintro rfl;exact h a);simp[Vr,blk,this]
theorem OU{a β:Type}(f:a->β):∀{l i x},nth l i=Z x->nth (l.map f) i=Z (f x)
 |_::_,0,_,h=>by cases h;rfl
 |_::l,i+1,_,h=>OU f (l:=l) h
 |[],_,_,h=>by cases h
theorem Hj:∀{c S d},oX S c=Z d->∀r∈c,∃x y,look S.rw r=Z x/\look d.rw r=Z y
 |[],_,_,_,r,e=>by cases e
 |q::c,S,d,h,r,e=>by simp[oX]at h;split at h;{rename_i x k;have ey:∀{c S d r y},oX S c=Z d->look S.rw r=Z y->∃b,look d.rw r=Z b:=by{intro c;induction c with|nil=>{intro S d r y h g;cases h;exact⟨y,g⟩}|cons a c i=>intro S d r y h g;simp[oX]at h;split at h;{rename_i b j;by_cases f:a=r;{exact i h (y:=b.share) (by simp[SS.setRow,look,f])};exact i h (y:=y) (by simp[SS.setRow,look,if_neg f,fL];exact g)};cases h};rcases aU.1 e with rfl|e;{obtain⟨b,j⟩:=ey h (r:=r) (y:=x.share) (by simp[SS.setRow,look]);exact⟨x,b,k,j⟩};obtain⟨n,y,m,l⟩:=Hj h r e;by_cases f:q=r;{exact⟨x,y,f▸k,l⟩};simp[SS.setRow,look,if_neg f,fL]at m;exact⟨n,y,m,l⟩};cases h
theorem S4(h:Rel ρ S s):∀{b i},(∀r∈gG b,∃x,look S.rw r=Z x)->fN ρ b i->fN ρ (b.map (ag9 S)) (i.map (QA s))
 |[],_,_,m=>by cases m;rfl
 |x::b,_,l,⟨c,i,o,f,n⟩=>by subst o;refine⟨_,_,rfl,?_,S4 h (λr q=>l r (by cases x<;>simp_all[gG])) n⟩;cases x with|ref r=>{obtain⟨y,j⟩:=l r (by simp[gG]);obtain⟨a,g,es,p,rfl⟩:=h.rw r y j;cases f;simp[ag9,j,QA,g];exact⟨_,p,rfl⟩}|d e=>{obtain⟨y,g,rfl⟩:=f;exact⟨y,g,rfl⟩}|nil k t=>{cases f;exact⟨_,rfl,rfl⟩}|any=>trivial
theorem mG(F:Gok (fI T) kG G):∀(k) {S ρ s t outs},Rel ρ S s->pD hint kG k S ρ.length=Z (t,outs)->Fits G t outs ρ (ev T mf k s)
 | .skip,S,ρ,s,t,outs,h,n=>by simp only[pD,bq]at n;rw[Th];exact vV h rfl n
 | .exit id,S,ρ,s,t,outs,h,n=>by simp only[pD,bq]at n;rw[Tg];exact vV h rfl n
 | .ret,S,ρ,s,t,outs,h,n=>by simp only[pD,bq]at n;rw[aac];exact vV h rfl n
 | .Uz ops kp,S,ρ,s,t,outs,h,n=>by simp only[pD]at n;rw[aab];exact J3 F h rfl n
 | .ZH ops kp,S,ρ,s,t,outs,h,n=>by simp only[pD]at n;rw[aaa];exact wo F (λ_ hp=>hp) h rfl n
 | .seq a b,S,ρ,s,t,outs,h,n=>by simp only[pD]at n;split at n;{rename_i ta oa hA;split at n;{rename_i ts N hf;cases n;have P:=mG F a h hA;obtain⟨_,V⟩:=Tj (G:=G) hf;intro j σ hd;simp only[eU]at hd;split at hd;{rename_i j0 Q Y;obtain⟨o,C,g1,g2,g3,g4⟩:=P j0 Q Y;obtain⟨t',os',g5,g6⟩:=V j0 o g1;rw[aad,g2];split at g5;{rename_i K;rw[<- g3]at g5;have hfb:=mG F b g4 g5;rw[K];exact g6 _ Q hfb j σ hd};rename_i K;simp at g5;have hi:=ahS (G:=G) g3 g4;rw[g5]at hi;rw[acY K];exact g6 _ Q hi j σ hd};cases hd};cases n};cases n
 | .cond c a b,S,ρ,s,t,outs,h,n=>by simp only[pD]at n;split at n;{rename_i e ta oa tb ob hc hA hB;generalize hq:o8 ob oa=q at n;obtain⟨f,N⟩:=q;cases n;obtain⟨q1,q2⟩:=pN hq;obtain⟨y,U,W⟩:=ma h (gs:=[]) rfl hc;rw[KM,W];refine Tw (λhg=>?_) λhg=>?_;{have:=nT hg (e,I) (by simp);simp only[U,bq]at this;subst this;exact (mG F a h hA).more q2};obtain⟨p,hp,he⟩:=Fg hg;simp at hp;subst hp;simp only[U,bq]at he;subst he;exact (mG F b h hB).map q1};cases n
 | .block id a,S,ρ,s,t,outs,h,n=>by simp only[pD]at n;split at n;{rename_i t' agz hA;generalize hq:o8 (agz.map (Nh id)) []=q at n;obtain⟨f,N⟩:=q;cases n;obtain⟨q1,_⟩:=pN hq;have P:=mG F a h hA;rw[NV];refine Fits.map (outs:=agz.map (Nh id)) ?_ q1;intro j σ hd;obtain⟨o,C,g1,g2,g3,g4⟩:=P j σ hd;refine⟨Nh id o,C,OU _ g1,by rw[g2,akW],?_,?_⟩;{rw[g3];unfold Nh;split<;>rfl};unfold Nh;split<;>exact g4};cases n
 | .share r a,S,ρ,s,t,outs,h,n=>by simp only[pD]at n;split at n;{rename_i S' hS;rw[NW];exact mG F a (pK h hS) n};cases n
 | .DV d a,S,ρ,s,t,outs,h,n=>by simp only[pD]at n;rw[Z_];have R:∀{c},look S.sl d=Z ⟨[],c⟩->na ρ c (s.get d):=λA=>by{obtain⟨b,X,V,_⟩:=h.sl d _ A;cases X;exact V rfl};split at n;{rename_i r A;have L:=R A;simp only[na,ox]at L;split at n;{rename_i x K;obtain⟨y,X,es,V,rfl⟩:=h.rw r x K;(have hd:sI s d=Z ((eM s [r]).put (Z d) (.d (.list x.k x.fl es))):=by simp only[sI,L,X]);rw[hd,fY];refine mG F a (Rel.put ?_ _ (tE.nil (c:=.b (.d x.e)) ⟨_,V,rfl⟩)) n;have:=pK (rs:=[r]) (S':=S.setRow r x.share) h (by simp[oX,K]);exact this};cases n};{rename_i e A;obtain⟨y,_,L⟩:=R A;(have hd:sI s d=Z s:=by simp only[sI,L]);rw[hd,fY];exact mG F a h n};{rename_i k fl A;have L:=R A;simp only[na,ox]at L;(have hd:sI s d=Z (s.put (Z d) (.d (.list k fl []))):=by simp only[sI,L]);rw[hd,fY];exact mG F a (h.put _ (tE.nil (c:=.b (.d (.k (.nil k fl)))) ⟨_,rfl,rfl⟩)) n};{rename_i b A;have L:=R A;simp only[na]at L;split at n;{rename_i xs K;split at n;{rename_i S' hS;split at n;{rename_i hc;obtain⟨cs,X,V⟩:=h.bx b xs K;have rT:=mE V hc;(have hd:sI s d=Z ((eM s (rowsOf cs)).gB b (cs.map (QA s))):=by simp only[sI,L,X]);rw[hd,fY,rT];refine mG F a (Rel.gB (pK h hS) b ?_) n;exact S4 h (λr hm=>by obtain⟨x,_,g,_⟩:=Hj hS r hm;exact⟨x,g⟩) V};cases n};cases n};cases n};cases n
 | .loop a,S,ρ,s,t,outs,h,n=>by simp only[pD]at n;generalize hq:Vb [] S=q at n;obtain⟨S',es⟩:=q;simp only at n;split at n;{rename_i ts H i hL;cases n;obtain⟨X,_,h3⟩:=ON (G:=G) hL;intro j σ hd;simp only[eU]at hd;split at hd;{rename_i Q Y;have nK:=QW hd;have step:∀{p:Nat×M D} {sg o s},Fe (eU G ts p.1 p.2)=Z sg->nth H p.1=Z o->p.2.length=o.m->Rel p.2 o.S s-> ∃w C j v,ev T mf a s=Z (Vr w.x,C)/\v.length=w.m/\Rel v w.S C/\((w.x=O/\sg=.go (j,v)/\nth H j=Z w)\/(w.x≠O/\sg=.out (j,v)/\nth outs j=Z w)):=by{intro p sg o s B ho A hR;obtain⟨t,os,f,g1,g2,g3⟩:=h3 p.1 o (by rw[bN];exact ho);rw[g2]at B;simp only[eU]at B;rw[<- A]at g1;have P:=mG F a hR g1;split at B;{rename_i l v Y;obtain⟨w,C,U,W,w3,w4⟩:=P l v Y;obtain⟨c,q1,q2⟩:=g3 l w U;rw[q1]at B;simp only[cV,Fe,bq]at B;refine⟨w,C,c / 2,v,W,w3,w4,?_⟩;split at q2;{rename_i K;obtain⟨j,rfl,q3⟩:=q2;rw[if_pos (by omega)]at B;(have e:2 * j / 2=j:=by omega);exact .inl ⟨K,B.symm,by rw[e];exact q3⟩};rename_i K;obtain⟨j,rfl,q3⟩:=q2;rw[if_neg (by omega)]at B;(have e:(2 * j+1) / 2=j:=by omega);exact .inr ⟨K,B.symm,by rw[e];exact q3⟩};cases B};have main:∀{p r},Bi (λp=>Fe (eU G ts p.1 p.2)) p r->∀{o s},nth H p.1=Z o->p.2.length=o.m->Rel p.2 o.S s->∃w C,nth outs r.1=Z w/\ev T mf (.loop a) s=Z (Vr w.x,C)/\r.2.length=w.m/\Rel r.2 w.S C:=by{intro p r L;induction L with|out B=>{intro o s ho A hR;obtain⟨w,C,j,v,U,W,w3,w4⟩:=step B ho A hR;rcases w4 with ⟨_,w5,_⟩|⟨w5,w6,w7⟩;{cases w5};cases w6;exact⟨w,C,w7,by rw[lf,U,acY w5],W,w3⟩}|go B MV ih=>intro o s ho A hR;obtain⟨w,C,j,v,U,W,w3,w4⟩:=step B ho A hR;rcases w4 with ⟨w5,w6,w7⟩|⟨_,w6,_⟩;{cases w6;obtain⟨o2,s2,v1,v2,v3⟩:=ih w7 W w3;refine⟨o2,s2,v1,?_,v3⟩;rw[lf,U,w5];exact v2};cases w6};exact main nK (X 0 _ rfl) (lb Y) (SU h rfl hq Y)};cases hd};cases n
end
def yn:Nat->M SA->Nat->SS->u SS
 |_,[],_,S=>Z S
 |p,.val d l::as,c,S=>match OA p 0 l c S with
  |(xs,a)=>if d=I then yn (p+1) as (c+l.length) (a.put (Z p) ⟨[],.agg xs⟩) else match xs with
   |[x]=>yn (p+1) as (c+l.length) (a.put (Z p) ⟨[],.b x⟩)
   |_=>O
 |p,.box l::as,c,S=>match OA (p+1400) 0 l c S with
  |(xs,a)=>yn (p+1) as (c+l.length) ((a.j9 (900+p) xs).put (Z p) ⟨[],.ptr (900+p) 0⟩)
def wrA(S:SS)(b:Bool)(a:M SB):u (SA×M SE×M Nat):=
 match ig (wrS S) a with
 |some l=>Z (.val b (l.map (·.1)),l.map (·.2),gG a)
 |none=>O
def UB(S:SS):KR->u (SA×M SE×M Nat)
 | .t d=>match look S.sl d with
  |some ⟨[],c⟩=>match c.cells with
   |some a=>wrA S c.isAgg a
   |none=>O
  |_=>O
 | .b _=>O
 | .c d n=>match look S.sl d with
  |some ⟨[],.ptr b 0⟩=>match look S.bx b with
   |some a=>if n=0 then (match a with
     |[x]=>wrA S J [x]
     |_=>O) else if a.length=n then wrA S I a else O
   |none=>O
  |_=>O
def Mk(S:SS):M KR->u (M SA×M SE×M Nat)
 |[]=>Z ([],[],[])
 |r::rs=>match UB S r,Mk S rs with
  |some (a,es,l),Z (as,fs,b)=>Z (a::as,es++fs,l++b)
  |_,_=>O
def Cz(S:SS):Nat->M SA->u (M SA×M SE×M Nat)
 |_,[]=>Z ([],[],[])
 |p,.val _ _::as=>Cz S (p+1) as
 |p,.box _::as=>match look S.bx (900+p) with
  |some a=>match ig (wrS S) a,Cz S (p+1) as with
   |some l,Z (c,fs,b)=>Z (.box (l.map (·.1))::c,l.map (·.2)++fs,gG a++b)
   |_,_=>O
  |none=>O
def idxOf{a:Type}[DecidableEq a](x:a):M a->u Nat
 |[]=>O
 |y::l=>if y=x then Z 0 else (idxOf x l).map (·+1)
def LU(a:M KR)(e:pe)(S:SS):u ST:=
 match a with
 |[.b d]=>if e.args.all SA.isVal=I then (match look S.sl d with
  |some ⟨[],.ptr b 0⟩=>match look S.bx b with
   |some c=>match ig (wrS S) c with
    |some l=>if k8 (gG c)=I then (match idxOf ([SA.box (l.map (·.1))],[]) e.res with
     |some j=>Z (.leaf j (l.map (·.2)))
     |none=>O) else O
    |none=>O
   |none=>O
  |_=>O) else O
 |_=>O
def LV(b:KF)(a:pe)(o:SO):u ST:=
 if o.x=O\/o.x=Z O then
  match Mk o.S b.res,Cz o.S 0 a.args with
  |some (rs,es,l),Z (os,fs,c)=>if k8 (l++c)=I then (match idxOf (rs,os) a.res with
   |some j=>Z (.leaf j (es++fs))
   |none=>O) else O
  |_,_=>LU b.res a o.S
 else O
def D9(b:KF)(a:pe):M SO->u ST
 |[]=>Z .nil
 |o::os=>match LV b a o,D9 b a os with
  |some t,Z c=>Z (.cons t c)
  |_,_=>O
def acE(hint:M Nat)(d:M (Nat×pe))(b:KF)(a:pe):u ST:=
 match yn 0 a.args 0 ⟨[],[],[]⟩ with
 |some S=>match pD hint d b.body S (xx a.args) with
  |some (t,outs)=>match D9 b a outs with
   |some c=>Z (.seq t c)
   |none=>O
  |none=>O
 |none=>O
section
variable {ρ:M D} {S:SS} {s:St}
theorem wK:∀{l p c S i s e as},Rel ρ S s->gU l e=Z as->Loc ρ c e->yn p l c S=Z i->Rel ρ i (lQ p as s)
 |[],p,c,S,i,s,e,as,h,g,f,d=>by cases e with|nil=>{cases g;cases d;exact h}|cons a e=>cases g
 | .val L l::as,p,c,S,i,s,e,rs,h,g,f,d=>by obtain⟨r,G,v,m,rfl⟩:=iz g;obtain⟨vs,t,rfl⟩:=aC.1 v;simp[yn]at d;generalize o:OA p 0 l c S=q at d;obtain⟨x,F⟩:=q;simp only at d;obtain⟨y,B,n,k,j⟩:=yx h t (f.take _) o;simp[lQ,Bx,n];split at d;{rename_i w;rw[if_pos w];exact wK (k.put (Z p) (tE.nil (c:=.agg x) ⟨y,rfl,j⟩)) m (f.drop _) d};rename_i w;rw[if_neg w];split at d;{obtain⟨K,C,rfl,A,H⟩:=j;exact wK (k.put (Z p) (tE.nil (c:=.b _) A)) m (f.drop _) d};cases d
 | .box l::as,p,c,S,i,s,e,rs,h,g,f,d=>by obtain⟨r,G,v,m,rfl⟩:=iz g;obtain⟨vs,t,rfl⟩:=aC.1 v;simp[yn]at d;generalize o:OA (p+1400) 0 l c S=q at d;obtain⟨x,F⟩:=q;obtain⟨y,B,n,k,j⟩:=yx h t (f.take _) o;simp[lQ,Bx,n];exact wK ((k.j9 (900+p) j).put (Z p) tE.ptr) m (f.drop _) d
theorem Ss(h:Rel ρ S s){xs vs i a es l}(e:fN ρ xs vs)(c:wrA S i xs=Z (a,es,l)):
  ∃d b,jq ρ es=Z d/\ig (kN s) vs=Z b/\tO a d=Z (.val i b)/\d.length=a.n/\rowsOf vs=l:=by unfold wrA at c;split at c;{rename_i m f;cases c;obtain⟨ys,b,k,j,g⟩:=A7 h e f;exact⟨ys,b,k,j,by simp[tO,g],mR g,mE e (qi (p:=SB.cell) (λ_ _=>wA) f)⟩};cases c
theorem adj{xs c r}(a:wrA S c xs=Z r):xs.all SB.cell=I:=by unfold wrA at a;split at a;{rename_i d b;exact qi (p:=SB.cell) (λ_ _=>wA) b};cases a
theorem agX{c v xs}(a:na ρ c v)(d:c.cells=Z xs)(e:xs.all SB.cell=I):v.isAgg=c.isAgg:=by cases c with|b x=>{cases d;have:=ox.cell a (by simpa using e);cases v<;>first|rfl|cases this}|agg ys=>{obtain⟨f,rfl,_⟩:=a;rfl}|_=>cases d
theorem ach(h:Rel ρ S s){r a es l}(e:UB S r=Z (a,es,l)):∃f x,Hd s r=Z (x,l)/\jq ρ es=Z f/\tO a f=Z x/\f.length=a.n:=by cases r with|t d=>{simp[UB]at e;split at e;{rename_i c w;obtain⟨b,A,y,_⟩:=h.sl d _ w;cases A;have g:=y rfl;split at e;{rename_i B G;have F:=adj e;obtain⟨f,C,o,m,k,j,i⟩:=Ss h (g.cells G F) e;have P:=agX g G F;exact⟨f,_,by simp[Hd,m,P,i],o,k,j⟩};cases e};cases e}|b d=>{cases e}|c d n=>simp[UB]at e;split at e;{rename_i b w;obtain⟨U,A,y,_⟩:=h.sl d _ w;cases A;have g:=y rfl;simp[na]at g;split at e;{rename_i B L;obtain⟨R,H,q⟩:=h.bx _ B L;split at e;{rename_i v;split at e;obtain⟨f,C,o,m,k,j,i⟩:=Ss h q e;obtain⟨T,N,rfl,Q,K⟩:=q;cases K;exact⟨f,_,by simp[Hd,g,H,v,m,i],o,k,j⟩;cases e};rename_i v;split at e;{rename_i p;obtain⟨f,C,o,m,k,j,i⟩:=Ss h q e;exact⟨f,_,by simp only[Hd,g,H,if_neg v];rw[if_pos (by rw[q.len,p]),m];simp[i],o,k,j⟩};cases e};cases e};cases e
theorem Bv:∀{a as ws us x rs},tO a ws=Z x->ws.length=a.n->gU as us=Z rs->gU (a::as) (ws++us)=Z (x::rs):=by intro a as ws us x rs d b c;simp[gU,take_left' b,drop_left' b,d,c]
theorem JT(h:Rel ρ S s):∀{e as es l},Mk S e=Z (as,es,l)->∃d c,AO s e=Z (c,l)/\jq ρ es=Z d/\gU as d=Z c
 |[],_,_,_,b=>by cases b;exact⟨[],[],rfl,rfl,rfl⟩
 |r::e,as,es,l,b=>by simp[Mk]at b;split at b;{rename_i a w v y fs t q p;cases b;obtain⟨d,x,o,n,m,k⟩:=ach h q;obtain⟨j,c,i,g,f⟩:=JT h p;exact⟨d++j,x::c,by simp[AO,o,i],qY n g,Bv m k f⟩};cases b
theorem CA(h:Rel ρ S s):∀{args as e p g es l},gU args e=Z as->Cz S p args=Z (g,es,l)->∃d c,xX s p as=Z (c,l)/\jq ρ es=Z d/\gU g d=Z c
 |[],as,e,p,g,es,l,f,b=>by cases e with|nil=>{cases f;cases b;exact⟨[],[],rfl,rfl,rfl⟩}|cons a e=>cases f
 | .val R B::args,as,e,p,g,es,l,f,b=>by obtain⟨r,L,n,m,rfl⟩:=iz f;obtain⟨vs,G,rfl⟩:=aC.1 n;simp[Cz]at b;obtain⟨d,c,k,j,i⟩:=CA h m b;exact⟨d,c,by simp[xX,Xx,k,au],j,i⟩
 | .box B::args,as,e,p,g,es,l,f,b=>by obtain⟨r,L,n,m,rfl⟩:=iz f;obtain⟨vs,G,rfl⟩:=aC.1 n;simp[Cz]at b;split at b;{rename_i c F;split at b;{rename_i N K fs P t C;cases b;obtain⟨Q,H,v⟩:=h.bx _ c F;obtain⟨ys,x,A,y,q⟩:=A7 h v t;obtain⟨d,w,k,j,i⟩:=CA h m C;have o:=mE v (qi (p:=SB.cell) (λ_ _=>wA) t);refine⟨ys++d,.box x::w,?_,qY A j,Bv (by simp[tO,q]) (mR q) i⟩;simp[xX,Xx,H,y,k,o,au]};cases b};cases b
theorem Fx{a:Type}[DecidableEq a]{x}:∀{l:M a} {j},idxOf x l=Z j->nth l j=Z x
 |[],_,h=>by cases h
 |y::l,j,h=>by simp[idxOf]at h;split at h;{rename_i b;cases h;rw[b];rfl};obtain⟨d,c,rfl⟩:=aC.1 h;exact Fx (l:=l) c
theorem NI{v ws us rs os}(b:gU v.1 ws=Z rs)(c:gU v.2 us=Z os):uY v (ws++us)=Z (rs,os):=by have a:=pF b;simp[uY,take_left' a,drop_left' a,b,c]
theorem Rj{G res f t as us}(h:Rel ρ S s)(F:gU f.args us=Z as)(c:LU res f S=Z t){j σ}(hd:eU G t 0 ρ=Z (j,σ)):
  ∃d v r,res=[.b d]/\nth f.res j=Z v/\uY v σ=Z r/\yS res as s=Z r:=by unfold LU at c;split at c;{rename_i d;split at c;{rename_i A;split at c;{rename_i b w;split at c;{rename_i n H;split at c;{rename_i l m;split at c;{rename_i B;split at c;{rename_i N C;cases c;obtain⟨Q,e,K,_⟩:=h.sl d _ w;cases e;have e:=K rfl;simp[na]at e;obtain⟨P,y,k⟩:=h.bx _ n H;obtain⟨ys,rs,q,o,i⟩:=A7 h k m;have g:=mE k (qi (p:=SB.cell) (λ_ _=>wA) m);simp[eU,q,cH]at hd;obtain⟨rfl,rfl⟩:=hd;refine⟨d,_,([.box rs],[]),rfl,Fx C,?_,?_⟩;{have L:gU [SA.box (l.map (·.1))] ys=Z [.box rs]:=by{have:=Bv (a:=SA.box (l.map (·.1))) (as:=[]) (ws:=ys) (us:=[]) (x:=.box rs) (rs:=[]) (by simp[tO,i]) (mR i) rfl;simpa using this};have:=NI (v:=([SA.box (l.map (·.1))],[])) (us:=[]) L rfl;simpa using this};simp[yS,EP F A,e,y,g,B,o,cV]};cases c};cases c};cases c};cases c};cases c};cases c};cases c
theorem Xe{G c e o t as us}(h:Rel ρ o.S s)(g:gU e.args us=Z as)(a:LV c e o=Z t){j σ}(hd:eU G t 0 ρ=Z (j,σ)):
  ∃v r,nth e.res j=Z v/\uY v σ=Z r/\fin c as (Z (Vr o.x,s))=Z r:=by unfold LV at a;split at a;{rename_i b;split at a;{rename_i p es l os fs P F C;split at a;{rename_i A;split at a;{rename_i Q B;cases a;obtain⟨N,f,y,w,q⟩:=JT h F;obtain⟨vs,ys,n,m,k⟩:=CA h g C;simp[eU,qY w m,cH]at hd;obtain⟨rfl,rfl⟩:=hd;refine⟨(p,os),(f,ys),Fx B,NI q k,?_⟩;(have:leave c as s=Z (f,ys):=by simp[leave,y,n,A]);rcases b with b|b<;>(rw[b];exact this)};cases a};cases a};obtain⟨d,v,r,i,L,K,H⟩:=Rj h g a hd;refine⟨v,r,L,K,?_⟩;have:leave c as s=Z r:=by{rw[<- H,i];simp[leave,i,AO,Hd]};rcases b with b|b<;>(rw[b];exact this)};cases a
theorem GB{G d c}:∀{outs a},D9 d c outs=Z a->∀j o,nth outs j=Z o->∃t,LV d c o=Z t/\∀ρ,eU G a j ρ=eU G t 0 ρ
 |[],a,h,j,o,b=>by cases b
 |p::outs,a,h,j,o,b=>by simp[D9]at h;split at h;{rename_i t e i g;cases h;cases j with|zero=>{cases b;exact⟨t,i,λρ=>rfl⟩}|succ j=>obtain⟨f,l,k⟩:=GB (G:=G) g j o b;exact⟨f,l,λρ=>k ρ⟩};cases h
theorem afA{T w G}(R:Gok (fI T) w G){hint f e}(L:T f=Z e)(U:e.np≠999){k}(q:k.args.length=e.np){t}(b:acE hint w e k=Z t)
  {ws d as j} (n:gU k.args ws=Z as) (hd:eU G t 0 ws=Z (j,d)):∃v r,nth k.res j=Z v/\uY v d=Z r/\fI T f as=Z r:=by have g:∀{l d m},gU l d=Z m->m.length=l.length:=by{intro l;induction l with|nil=>{intro d m h;cases d<;>cases h;rfl}|cons a l H=>intro d m h;obtain⟨r,He,_,V,rfl⟩:=iz h;simp[H V]};unfold acE at b;split at b;{rename_i S N;split at b;{rename_i t0 outs A;split at b;{rename_i ts Q;cases b;have W:Rel ws ⟨[],[],[]⟩ ⟨[],[],[]⟩:=⟨λ_ _ h=>(by cases h),λ_ _ h=>(by cases h),λ_ _ h=>(by cases h)⟩;have P:=wK W n (c:=0) (λi x K=>by rw[bN];exact K) N;rw[<- pF n]at A;have BO:=mG (mf:=zx) R e.body P A;simp[eU]at hd;split at hd;{rename_i y p Q6;obtain⟨o,s',g1,g2,g3,g4⟩:=BO y p Q6;obtain⟨t',Y,X⟩:=GB (G:=G) Q y o g1;rw[X]at hd;obtain⟨v,r,F,C,B⟩:=Xe g4 n Y hd;refine⟨v,r,F,C,?_⟩;rw[T8 T L U];unfold run;rw[if_pos (by rw[g n,q]),g2];exact B};cases hd};cases b};cases b};cases b
end
def Dq:RV->HX×D
 | .d x=>(.d,x)
 | .row r=>(.row r.k r.fl r.deep r.app r.fz,.list r.k r.fl r.es)
def EG:A->SA×M D
 | .val a l=>(.val a (l.map λv=>(Dq v).1),l.map λv=>(Dq v).2)
 | .box l=>(.box (l.map λv=>(Dq v).1),l.map λv=>(Dq v).2)
def sJ:M A->M SA×M D
 |[]=>([],[])
 |a::as=>((EG a).1::(sJ as).1,(EG a).2++(sJ as).2)
def QB(r:M A×M A):(M SA×M SA)×M D:=(((sJ r.1).1,(sJ r.2).1),(sJ r.1).2++(sJ r.2).2)
theorem ZS v:EO (Dq v).1 (Dq v).2=Z v:=by cases v with|d x=>{rfl}|row r=>simp[Dq,EO]
theorem I7:∀l,nO (l.map λv=>(Dq v).1) (l.map λv=>(Dq v).2)=Z l
 |[]=>rfl
 |v::l=>by simp[nO,ZS,I7 l]
def Zp a:(EG a).2.length=(EG a).1.n:=by cases a<;>simp[EG,SA.n]
def ZQ a:tO (EG a).1 (EG a).2=Z a:=by cases a<;>simp[EG,tO,I7]
theorem Bw:∀as,gU (sJ as).1 (sJ as).2=Z as
 |[]=>rfl
 |a::as=>by simp[sJ];unfold gU;rw[List.take_left' (Zp a),List.drop_left' (Zp a),ZQ,Bw as];rfl
def ZR r:uY (QB r).1 (QB r).2=Z r:=by have h:(sJ r.1).2.length=xx (sJ r.1).1:=pF (Bw r.1);simp[QB,uY,List.take_left' h,List.drop_left' h,Bw]
def Zu{v x r}(h:EO v x=Z r):Dq r=(v,x):=by unfold EO at h;split at h;{cases h;rfl};{split at h;{rename_i a;obtain⟨rfl,rfl⟩:=a;cases h;rfl};cases h};cases h
theorem Bt:∀{l a vs},nO l a=Z vs->(vs.map λv=>(Dq v).1)=l/\(vs.map λv=>(Dq v).2)=a
 |[],[],_,h=>by cases h;exact⟨rfl,rfl⟩
 |[],_::_,_,h=>by cases h
 |_::_,[],_,h=>by cases h
 |v::l,x::a,vs,h=>by simp[nO]at h;split at h;{rename_i r b;obtain⟨f,e,rfl⟩:=aC.1 h;obtain⟨d,c⟩:=Bt e;simp only[bz,d,c,Zu b];exact⟨trivial,trivial⟩};cases h
theorem Zt{a xs r}(h:tO a xs=Z r):EG r=(a,xs):=by cases a with|val e l=>{obtain⟨vs,d,rfl⟩:=aC.1 h;obtain⟨c,b⟩:=Bt d;simp[EG,c,b]}|box l=>obtain⟨vs,d,rfl⟩:=aC.1 h;obtain⟨c,b⟩:=Bt d;simp[EG,c,b]
theorem Br:∀{l b c},gU l b=Z c->sJ c=(l,b)
 |[],[],_,h=>by cases h;rfl
 |[],_::_,_,h=>by cases h
 |a::as,b,c,h=>by obtain⟨r,f,e,d,rfl⟩:=iz h;simp[sJ,Zt e,Br d]
def Nx{v us r}(h:uY v us=Z r):QB r=(v,us):=by unfold uY at h;split at h;{rename_i c outs b a;cases h;simp[QB,Br b,Br a]};cases h
theorem TJ{a:Type}[DecidableEq a]{x}:∀{l:M a} {j},idxOf x l=Z j->nth l j=Z x
 |y::l,j,h=>by simp[idxOf]at h;split at h;{rename_i b;cases h;rw[b];rfl};obtain⟨i,c,rfl⟩:=aC.1 h;exact (show nth l i=Z x from TJ c)
theorem bj{a:Type}:∀{l i} {x:a},nth l i=Z x->x∈l
 |y::l,0,x,h=>by cases h;exact eo
 |y::l,i+1,x,h=>eb _ (bj (l:=l) h)
theorem Uk{b:Type}[DecidableEq b]{x}:∀{l:M b} {j},l.Nodup->nth l j=Z x->idxOf x l=Z j
 |y::l,0,a,h=>by cases h;simp[idxOf]
 |y::l,j+1,a,h=>by have c:y≠x:=λe=>(cW.1 a).1 (e▸bj (l:=l) h);simp[idxOf,if_neg c,Uk (cW.1 a).2 h]
noncomputable def GF(T:Nat->u KF)(c:M (Nat×pe)):Gf:=λi b=>
 match look c i with
 |some a=>match gU a.args b with
  |some as=>match Zd (fI T) a.f as with
   |some r=>(idxOf (QB r).1 a.res).map (·,(QB r).2)
   |none=>O
  |none=>O
 |none=>O
def En T a:Gok (fI T) a (GF T a):=by intro i l c g j k h;simp[GF,c]at h;split at h;{rename_i as d;split at h;{rename_i r b;obtain⟨m,f,e⟩:=aC.1 h;cases e;exact⟨as,r,_,d,TJ f,ZR r,b⟩};cases h};cases h
def yf{T a i sg}(e:look a i=Z sg){ws us as r v j}(h:gU sg.args ws=Z as)
  (d:fI T sg.f as=Z r) (c:uY v us=Z r) (g:idxOf v sg.res=Z j) (b:eP sg.f 100000=I:=by rfl):GF T a i ws=Z (j,us):=by rw[xo]at b;simp[GF,e,h,ED b,d,Nx c,g]
def Qi{T a i sg}(d:look a i=Z sg){ws us as r v j}(g:gU sg.args ws=Z as)
  (c:Zd (fI T) sg.f as=Z r) (b:uY v us=Z r) (e:idxOf v sg.res=Z j):GF T a i ws=Z (j,us):=by simp[GF,d,g,c,Nx b,e]
def akD{T b i a hint c t}(m:look b i=Z a)(n:T a.f=Z c)(e:(a.args.length ==c.np && eP c.np 999 && decide a.res.Nodup && eP a.f 100000)=I)
  (l:acE hint b c a=Z t) {ws us as j} (d:gU a.args ws=Z as) (hd:eU (GF T b) t 0 ws=Z (j,us)):GF T b i ws=Z (j,us):=by simp at e;obtain⟨⟨⟨q,s⟩,p⟩,o⟩:=e;obtain⟨v,r,k,h,g⟩:=afA (En T b) n (by omega) q l d hd;exact yf m d g h (Uk p k) (by rw[xo];exact o)
structure kv where
 lo:Int
 hi:Int
 deriving DecidableEq
structure lW where
 ax:Int
 ranges:List kv
 names:List ByteArray
 pattern:ByteArray
 path:ByteArray
 deriving DecidableEq
structure fP where
 aq:ByteArray
 bo:ByteArray
 deriving DecidableEq
structure eh where
 aq:ByteArray
 cT:List fP
 deriving DecidableEq
structure fE where
 root:Bool
 kj:Int
 steps:List eh
 deriving DecidableEq
structure cr where
 op:Int
 num:Int
 text:ByteArray
 path:fE
 ai:List cr
structure ao where
 ax:Int
 aq:ByteArray
 type:lW
 ch:List ByteArray
 unique:List ByteArray
 default:ByteArray
 given:Bool
 dy:Bool
 df:Bool
 fixed:Bool
 min:Int
 max:Int
 when:List cr
 gZ:List cr
 ai:List ao
structure aD where
 aq:ByteArray
 bo:ByteArray
 ai:List aD
structure dD where
 op:Int
 text:ByteArray
 ai:List dD
def gm(s:z):M D:=[.str s]
def CZ(b:Bool):M D:=[.bool b]
def lD(x:kv):M D:=[.int .i64 x.lo,.int .i64 x.hi]
abbrev aI(l:M z):D:=.list 1 I (l.map gm)
abbrev bP(l:M Bool):D:=.list 1 I (l.map CZ)
abbrev gR(l:M kv):D:=.list 2 I (l.map lD)
def dE(x:lW):M D:=[.int .i64 x.ax,gR x.ranges,aI x.names,.str x.pattern,.str x.path]
def gT(x:fP):M D:=[.str x.aq,.str x.bo]
abbrev cN(l:M fP):D:=.list 2 I (l.map gT)
def dq(x:eh):M D:=[.str x.aq,cN x.cT]
abbrev bM(l:M eh):D:=.list 2 J (l.map dq)
def bT(x:fE):M D:=[.bool x.root,.int .i64 x.kj,bM x.steps]
def cr.uQ{x y:cr}(h:y∈x.ai):aF y<aF x:=by have a:=bB h;cases x;simp;dsimp only at a;omega
def bU(x:cr):M D:=[.int .i64 x.op,.int .i64 x.num,.str x.text,.bool x.path.root,.int .i64 x.path.kj,bM x.path.steps,.list 7 J (x.ai.map λy=>bU y)]
termination_by aF x
decreasing_by exact cr.uQ (by assumption)
abbrev cB(l:M cr):D:=.list 7 J (l.map bU)
def aR x:bU x=[.int .i64 x.op,.int .i64 x.num,.str x.text,.bool x.path.root,.int .i64 x.path.kj,bM x.path.steps,cB x.ai]:=by rw[bU]
def ao.uQ{x y:ao}(h:y∈x.ai):aF y<aF x:=by have a:=bB h;cases x;simp;dsimp only at a;omega
def aA(x:ao):M D:=[.int .i64 x.ax,.str x.aq,.int .i64 x.type.ax,gR x.type.ranges,aI x.type.names,.str x.type.pattern,.str x.type.path,aI x.ch,aI x.unique,.str x.default,.bool x.given,.bool x.dy,.bool x.df,.bool x.fixed,.int .i64 x.min,.int .i64 x.max,cB x.when,cB x.gZ,.list 19 J (x.ai.map λy=>aA y)]
termination_by aF x
decreasing_by exact ao.uQ (by assumption)
abbrev aB(l:M ao):D:=.list 19 J (l.map aA)
def ak x:aA x=[.int .i64 x.ax,.str x.aq,.int .i64 x.type.ax,gR x.type.ranges,aI x.type.names,.str x.type.pattern,.str x.type.path,aI x.ch,aI x.unique,.str x.default,.bool x.given,.bool x.dy,.bool x.df,.bool x.fixed,.int .i64 x.min,.int .i64 x.max,cB x.when,cB x.gZ,aB x.ai]:=by rw[aA]
def aD.uQ{x y:aD}(h:y∈x.ai):aF y<aF x:=by have a:=bB h;cases x;simp;dsimp only at a;omega
def bh(x:aD):M D:=[.str x.aq,.str x.bo,.list 3 J (x.ai.map λy=>bh y)]
termination_by aF x
decreasing_by exact aD.uQ (by assumption)
abbrev az(l:M aD):D:=.list 3 J (l.map bh)
def aO x:bh x=[.str x.aq,.str x.bo,az x.ai]:=by rw[bh]
def dD.uQ{x y:dD}(h:y∈x.ai):aF y<aF x:=by have a:=bB h;cases x;simp;dsimp only at a;omega
def jz(x:dD):M D:=[.int .i64 x.op,.str x.text,.list 3 J (x.ai.map λy=>jz y)]
termination_by aF x
decreasing_by exact dD.uQ (by assumption)
abbrev cK(l:M dD):D:=.list 3 J (l.map jz)
def a_ x:jz x=[.int .i64 x.op,.str x.text,cK x.ai]:=by rw[jz]
theorem UM{b:Type}f:∀{a:M b} {x},x∈a->dV (f x)<=qp (a.map f)
 |[],_,h=>by simp at h
 |y::ys,x,h=>by simp [bz,qp];rcases aU.1 h with rfl|h;{omega};have:=UM f h;omega
abbrev bO{a:Type}(f:a->M D)(l:M a):Nat:=l.length+qp (l.map f)
def cq{b:Type}f{l}{x:b}(h:x∈l):dV (f x)<bO f l:=by have d:=UM f h;(have c:0<l.length:=by cases l with|nil=>cases h|cons a l=>simp);simp[bO];omega
def fW{a:Type}f x(l:M a):bO f (x::l)=dV (f x)+bO f l+1:=by simp[bO,qp];omega
def kM{a:Type}f(l m:M a):bO f (l++m)=bO f l+bO f m:=by simp[bO,zh];omega
def acS{a:Type}f(l:M a)i:bO f (l.take i)<=bO f l:=by have:=kM f (l.take i) (l.drop i);simp_all
def UN l{s}(h:s∈l):s.size<bO gm l:=by have:=cq gm h;simp[gm,dV,D.sz]at this;omega
def oL x:dV (dE x)=bO lD x.ranges+bO gm x.names+x.pattern.size+x.path.size:=by simp[dE,dV,D.sz,bO];omega
def HA x:dV (gT x)=x.aq.size+x.bo.size:=by simp only[gT,dV,D.sz];omega
def nF x:dV (dq x)=x.aq.size+bO gT x.cT:=by simp only[dq,dV,D.sz,aj,bO];omega
def jX x:dV (bT x)=bO dq x.steps:=by simp only[bT,dV,D.sz,aj,bO];omega
def jF x:dV (bU x)=x.text.size+dV (bT x.path)+bO bU x.ai:=by simp[aR,bT,dV,D.sz,bO];omega
def ck x:dV (aA x)=x.aq.size+dV (dE x.type)+bO gm x.ch+bO gm x.unique+x.default.size+bO bU x.when+bO bU x.gZ+bO aA x.ai:=by simp[ak,dE,dV,D.sz,bO];omega
def eF x:dV (bh x)=x.aq.size+x.bo.size+bO bh x.ai:=by simp[aO,dV,D.sz,bO];omega
def Bp(i:Nat):Nat->Nat->M SE
 |_,0=>[]
 |j,n+1=>.c i j::Bp i (j+1) n
abbrev Y(i:Nat):SE:=.v i
abbrev N(n:Int):SE:=.k (.int .i64 n)
abbrev U(n:Int):SE:=.k (.int .u8 n)
abbrev B(b:Bool):SE:=.k (.bool b)
abbrev L(k:Nat)(a:Bool):SE:=.k (.nil k a)
abbrev X(i j:Nat):SE:=.c i j
abbrev o_(o:PO)(es:M SE)(t:ST):ST:=.op [] o es t
abbrev p_(a:Gs)(t:ST):ST:=.op a .pl [] t
abbrev c1(t:ST):ST:=.cons t .nil
abbrev r_(i n:Nat):M SE:=J6 i n
abbrev f_(i:Nat)(o:PO)(es:M SE)(t:ST):ST:=.op [(.v i,J)] o es t
abbrev d_(i:Nat)(a b:ST):ST:=.gd [(.v i,I)] a b
abbrev e_(i:Nat)(a b:ST):ST:=.gd [(.v i,J)] a b
abbrev L_(es:M SE):ST:=.leaf 0 es
abbrev M1(t:ST):ST:=.map [1] t
abbrev b_(a b:ST):ST:=.seq a (.cons b .nil)
abbrev k_(a b:ST):ST:=.cons a b
abbrev h_(a b:ST):ST:=.seq a b
abbrev Yo(i j:Nat)(t:ST):ST:=.op [] .ite [.v i,.k (.bool I),.v j] t
abbrev XB(i:Nat)(t:ST):ST:=.op [(.v i,J)] .pl [] t
abbrev z_(t:ST):ST:=.seq t (.cons (.leaf 0 [.v 0]) .nil)
abbrev c_(i:Nat)(es:M SE)(t:ST):ST:=.call i es (.cons t .nil)
abbrev xs_(i j n:Nat):M SE:=Bp i j n
abbrev E2:PO:=.bin .eql
abbrev N2:PO:=.bin .neq
abbrev L2:PO:=.bin .lss
abbrev G2:PO:=.bin .gtr
abbrev H2:PO:=.bin .geq
abbrev A2:PO:=.bin .add
abbrev S2:PO:=.bin .sub
abbrev zI(n:Int):SK:=.int .i64 n
abbrev zB(b:Bool):SK:=.bool b
abbrev zS(l:M UInt8):SK:=.str ⟨l.toArray⟩
abbrev zL(k:Nat)(a:Bool):SK:=.nil k a
abbrev R:=u (Nat×M D)
noncomputable def opT(r:u D)(G:Gf)(t:ST)(a:M D):R:=match r with
 |some x=>eU G t 0 (a++[x])
 |none=>O
def poT(o:PO):u (M D)->u D
 |some a=>aP o a
 |none=>O
noncomputable def ogT(g:u Bool)(G:Gf)(o:PO)(es:M SE)(t:ST)(a:M D):R:=match g with
 |some I=>opT (poT o (jq a es)) G t a
 |some J=>eU G t 0 (a++[.bool J])
 |none=>O
noncomputable def Ye(g:u Bool)(G:Gf)(a b:ST)(c:M D):R:=match g with
 |some I=>eU G a 0 c
 |some J=>eU G b 0 c
 |none=>O
noncomputable def clR(r:R)(G:Gf)(b:ST)(a:M D):R:=match r with
 |some (j,ws)=>eU G b j (a++ws)
 |none=>O
noncomputable def clT(r:u (M D))(G:Gf)(i:Nat)(c:ST)(a:M D):R:=match r with
 |some b=>clR (G i b) G c a
 |none=>O
def lfT(j:Nat):u (M D)->R
 |some a=>Z (j,a)
 |none=>O
def mpT(f:M Nat):R->R
 |some (j,σ)=>(nth f j).map (·,σ)
 |none=>O
noncomputable def sqT(r:R)(G:Gf)(a:ST):R:=match r with
 |some (j,σ)=>eU G a j σ
 |none=>O
noncomputable def lB(G:Gf)(a:ST)(p:Nat×M D):u (Sg (Nat×M D) (Nat×M D)):=Fe (eU G a p.1 p.2)
noncomputable def lpT(r:u (M D))(G:Gf)(h:Nat)(b:ST):R:=match r with
 |some a=>bG (lB G b) (h,a)
 |none=>O
def gsT(w:Bool):u D->u Bool->u Bool
 |some (.bool b),Z c=>Z (if b=w then c else J)
 |_,_=>O
def elT(j:Nat):u D->u D
 |some x=>match elC x with
  |some a=>nth a j
  |none=>O
 |none=>O
def csT:u D->u (M D)->u (M D)
 |some x,Z xs=>Z (x::xs)
 |_,_=>O
section
variable (G:Gf) (ρ:M D)
theorem alu o es t j:eU G (.op [] o es t) j ρ=opT (poT o (jq ρ es)) G t ρ:=by simp[eU,poT];cases jq ρ es<;>rfl
theorem als p(a:Gs)o es t j:eU G (.op (p::a) o es t) j ρ=ogT (jM ρ (p::a)) G o es t ρ:=by simp[eU,ogT,poT];generalize jM ρ (p::a)=g;rcases g with _|_|_;{rfl};{rfl};cases jq ρ es<;>rfl
theorem alo gs a b j:eU G (.gd gs a b) j ρ=Ye (jM ρ gs) G a b ρ:=(rfl)
theorem alm i es a j:eU G (.call i es a) j ρ=clT (jq ρ es) G i a ρ:=(rfl)
theorem alp j es k:eU G (.leaf j es) k ρ=lfT j (jq ρ es):=(rfl)
theorem alr f t k:eU G (.map f t) k ρ=mpT f (eU G t 0 ρ):=(rfl)
theorem alv t a k:eU G (.seq t a) k ρ=sqT (eU G t 0 ρ) G a:=(rfl)
theorem alq h es a k:eU G (.loop h es a) k ρ=lpT (jq ρ es) G h a:=(rfl)
theorem alj a b k:eU G (.both a b) k ρ=IQ (eU G a 0 ρ) (eU G b 0 ρ):=(rfl)
theorem alk a b:eU G (.cons a b) 0 ρ=eU G a 0 ρ:=(rfl)
theorem aln a b j:eU G (.cons a b) (j+1) ρ=eU G b j ρ:=(rfl)
theorem an6 x t:opT (Z x) G t ρ=eU G t 0 (ρ++[x]):=(rfl)
theorem aom o xs:poT o (Z xs)=aP o xs:=(rfl)
theorem anC o es t:ogT (Z I) G o es t ρ=opT (poT o (jq ρ es)) G t ρ:=(rfl)
theorem anB o es t:ogT (Z J) G o es t ρ=eU G t 0 (ρ++[.bool J]):=(rfl)
theorem alL a b:Ye (Z I) G a b ρ=eU G a 0 ρ:=(rfl)
theorem alK a b:Ye (Z J) G a b ρ=eU G b 0 ρ:=(rfl)
theorem alc xs i a:clT (Z xs) G i a ρ=clR (G i xs) G a ρ:=(rfl)
theorem alb j ws a:clR (Z (j,ws)) G a ρ=eU G a j (ρ++ws):=(rfl)
theorem ane j xs:lfT j (Z xs)=Z (j,xs):=(rfl)
theorem anq f j σ:mpT f (Z (j,σ))=(nth f j).map (·,σ):=(rfl)
theorem aps j σ a:sqT (Z (j,σ)) G a=eU G a j σ:=(rfl)
theorem anj σ h a:lpT (Z σ) G h a=bG (lB G a) (h,σ):=(rfl)
theorem d_v i:SE.d ρ (.v i)=nth ρ i:=(rfl)
theorem d_k x:SE.d ρ (.k x)=Z x.d:=(rfl)
theorem d_c i j:SE.d ρ (.c i j)=elT j (nth ρ i):=by simp[SE.d];cases nth ρ i<;>rfl
theorem af8 j k a cs:elT j (Z (.list k a [cs]))=nth cs j:=(rfl)
theorem af7:jq ρ []=Z []:=(rfl)
theorem ZN e es:jq ρ (e::es)=csT (e.d ρ) (jq ρ es):=by simp[jq];cases e.d ρ with|none=>{rfl}|some x=>cases jq ρ es<;>rfl
theorem alf x xs:csT (Z x) (Z xs)=Z (x::xs):=(rfl)
theorem bc a h σ:lB G a (h,σ)=Fe (eU G a h σ):=(rfl)
theorem gO j σ:Fe (Z (j,σ))=Z (if j % 2=0 then .go (j / 2,σ) else .out (j / 2,σ)):=(rfl)
end
def AK op k a b:aP (.bin op) [.int k a,.int k b]=Y3 op k a b:=by simp[aP,U_];cases Y3 op k a b<;>rfl
def abO op a b:aP (.bin op) [.str a,.str b]=Y4 op a b:=by simp[aP,U_];cases Y4 op a b<;>rfl
theorem aon op a b:aP (.Yd op) [.bool a,.bool b]=Y2 op a b:=(rfl)
theorem aiD b:aP .not [.bool b]=Z (.bool (!b)):=(rfl)
theorem aeU k b a:aP (.conv k) [.int b a]=Z (.int k (k.wrap a)):=(rfl)
theorem aiC k a:aP .neg [.int k a]=Z (.int k (k.wrap (-a))):=(rfl)
theorem aiA k a es:aP .len [.list k a es]=Z (.int .i64 es.length):=(rfl)
theorem aiE t:aP .sln [.str t]=Z (.int .i64 t.size):=(rfl)
def aeY b y:aP .ite [.bool b,.bool I,.bool y]=Z (.bool (b ||y)):=by cases b<;>rfl
def aeX b y:aP .ite [.bool b,.bool y,.bool J]=Z (.bool (b && y)):=by cases b<;>rfl
theorem aiy o k a cs:aP (.cel o) [.list k a [cs]]=nth cs o:=(rfl)
theorem zb n k a cs:aP (.has n) [.list k a [cs]]=if n<=cs.length then Z (.bool J) else O:=(rfl)
def aoo k a es n(h:0<=n):aP (.el k) [.list k a es,.int .i64 n]=(nth es n.toNat).map λe=>.list 0 J [e]:=by simp[aP,h,if_true]
def j_ k a es(n:Nat):aP (.el k) [.list k a es,.int .i64 (n)]=(nth es n).map λe=>.list 0 J [e]:=by rw[aoo k a es n (by omega),cn]
def aiz k a es:aP (.el k) [.list k a es,.int .i64 0]=(nth es 0).map λe=>.list 0 J [e]:=j_ k a es 0
def jD k a es(n:Nat)(h:n<es.length):aP .Zg [.list k a es,.int .i64 (n)]=Z (.bool J):=by simp only[aP];rw[if_pos ⟨by omega,h⟩]
def cZ t(n:Nat)(h:n<t.size):aP .six [.str t,.int .i64 (n)]=Z (.int .u8 (bY t n)):=by simp only[aP,cn];rw[if_pos ⟨by omega,h⟩]
theorem abQ:aP .pl []=Z (.bool J):=(rfl)
def RE k a c es b(h:(es.length+b.length) * a<=room/\es.length+b.length<=maxLen):aP (.app k a) [.list k c es,.list k c b]=Z (.list k c (es++b)):=by simp[aP,h.1,h.2,if_true]
theorem aiB a b:aP .max [.int .i64 a,.int .i64 b]=Z (.int .i64 (if a<b then b else a)):=(rfl)
def xg k a:aP (.lu k a) []=Z (.list k a []):=by simp only[aP,aJ,Nat.zero_div,chunk];simp
theorem ajP k n:SK.d (.int k n)=.int k n:=(rfl)
theorem afv b:SK.d (.bool b)=.bool b:=(rfl)
theorem ajR t:SK.d (.str t)=.str t:=(rfl)
theorem ajQ k a:SK.d (.nil k a)=.list k a []:=(rfl)
theorem alN ρ e w gs c(a:jM ρ gs=Z c):jM ρ ((e,w)::gs)=gsT w (e.d ρ) (Z c):=by simp[jM];cases e.d ρ with|none=>{rfl}|some x=>cases x<;>simp only[gsT,a]<;>split<;>rfl
def aht ρ e w:jM ρ [(e,w)]=gsT w (e.d ρ) (Z I):=alN ρ e w [] I rfl
def alP b:gsT I (Z (.bool b)) (Z I)=Z b:=by cases b<;>rfl
def alO b:gsT J (Z (.bool b)) (Z I)=Z (!b):=by cases b<;>rfl
attribute [go_sem] AK abO aon aiD aeU aiC aiA aiE aeY aeX aiy zb j_ aiz abQ aiB xg ajP afv ajR ajQ aht alP alO
attribute [go_sem] alu als alo alm alp alr alv alq alj alk aln an6 aom anC anB alL alK alc alb ane anq aps anj d_v d_k d_c af8 af7 ZN alf Qs
attribute [go_sem] Bp
attribute [go_sem] eg Nat.reduceMod Nat.reduceDiv cj reduceIte rF Int.reduceLT Int.reduceLE Int.reduceAdd Int.reduceSub Int.reduceNeg
end Go.Proofs.YtbnmicpicjmgiaaGreatDoor
