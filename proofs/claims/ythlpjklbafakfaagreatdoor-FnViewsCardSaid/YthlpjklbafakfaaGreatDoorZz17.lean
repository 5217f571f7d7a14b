/- Part of the proof. Condition: none. -/
import Derived.Test.YthlpjklbafakfaaGreatDoorZz16
set_option linter.unusedVariables false
set_option linter.unusedSimpArgs false
set_option linter.unusedSectionVars false
open Bool renaming and_eq_true->af,and_self_left->ax,false_eq_true->aC,not_not->aI,not_eq_true'->bY,false_and->cI,true_and->cJ,false_ne_true->cS,or_eq_true->dr,eq_iff_iff->dL,not_false->dZ,and_true->ed,eq_false_iff->eg,or_false->ew,not_true->eP,false_or->fh,or_true->ft,and_false->fO,and_assoc->gR,or_assoc->iq,true_or->ir,and_self->kv,true->I,false->J
open ByteArray renaming size->nD,ext->rz
open Int renaming toNat_natCast->cq,reduceLE->du,reduceLT->dv,lt_irrefl->iz,zero_add->qG,natCast_nonneg->rD,le_refl->yb
open List renaming length_map->aj,cons_append->aq,nil_append->ay,length_cons->aE,length_nil->aJ,mem_cons->aP,append_nil->aQ,length_append->aR,mem_append->aS,mem_cons_self->aU,map_cons->aW,sizeOf_lt_of_mem->aX,replicate->bc,all_eq_true->bg,length_take->bj,mem_cons_of_mem->bk,append_assoc->bE,nodup_append->bG,mem_singleton->bI,all_cons->bJ,take_length->bN,map_append->bR,length_drop->bT,range->bW,mem_map->cm,map_nil->cE,drop_zero->cK,length_eq_one_iff->db,take_zero->dw,mem_map_of_mem->ey,drop_of_length_le->eJ,map_id'->eX,drop_length->fC,getElem?_eq_getElem->fD,isEmpty_nil->fS,isEmpty_cons->ga,forall_mem_cons->gC,take_of_length_le->gT,flatMap_cons->iL,replicate_succ->ja,any_eq_true->kN,any_cons->lH,map_take->lI,length_pos_iff->mK,pairwise_cons->nA,map_const'->qc,getElem_append_left->tK,isEmpty_iff->ui,foldl_cons->wm,length_filter_le->wI,takeWhile_prefix->wJ,foldl_nil->xY,getElem_of_mem->zH,takeWhile_cons->zI
open List.cons renaming sizeOf_spec->bo,injEq->bZ
open Nat renaming le_refl->au,lt_irrefl->aG,le_trans->aL,lt_succ_self->aY,zero_add->bD,reduceLeDiff->bH,reduceEqDiff->bP,zero_le->cB,reduceAdd->cL,reduceBNe->cU,reduceBEq->cW,reduceMul->cX,reduceSub->cY,reduceLT->dQ,lt_or_ge->dU,add_zero->eu,mul_one->pw
open Option renaming map_eq_some_iff->ak,map_some->aH,isSome_none->bO,isSome_some->cZ,getD_none->dz,getD_some->dB,some->Z,none->O
open Option.some renaming injEq->aa,inj->iE
open SizeOf renaming sizeOf->av
open UInt8 renaming ofNat->dX
open Decidable renaming decide->Z'
namespace Go.Proofs.YthlpjklbafakfaaGreatDoor
set_option maxRecDepth 100000
set_option maxHeartbeats 4000000
section
theorem WQ(b:Int):pCh b=(fG 97 122 b ||(fG 48 57 b ||decide (b=45))):=(rfl)
theorem aa5{s:z}{i:Nat}(h:i < s.size):aK (.MI I) [.str s,E (i:Int),E ((i+1:Nat):Int)]=Z (.str (Ep (cr s i))):=by
 have e:dI (E (i:Int))=Z i:=by simp[dI]
 have d:dI (E ((i+1:Nat):Int))=Z (i+1):=by simp only[dI];rw[if_pos (by omega)];congr 1
 simp only[aK,e,d];rw[if_pos ⟨by omega,by omega⟩]
 congr 2
 have a:(cr s i).toNat=(s[i]?.getD 0).toNat:=by unfold cr;simp
 have f:dX (cr s i).toNat=s[i]:=by
  rw[a,getElem?_pos s i h,dB];simp
 apply rz
 have c:(Ep (cr s i)).data=#[s[i]]:=by simp only[Ep,bA,f]
 rw[c,ByteArray.data_extract]
 apply Array.ext
 ·simp;omega
 ·intro j g b;have:j=0:=by simpa using b
  subst this;simp
  rfl
theorem ajK(k:Nat)(h:k<=mg):IntKind.i64.wrap (((k+1:Nat):Int) - 1)=(k:Int):=by rw[wrap_i64 (by simp only[mg]at h;omega)];omega
def CM(f:Nat)(s:z)(i c n:Nat)(a:Bool)(r:PR):Prop:=∃j p k b,j < n/\G f [.str s,.int .i64 (i:Int),.bool a]=Z (j,jb p++[.str s,.int .i64 (k:Int),.bool b])/\PA s i c r p k b
section
variable {s:z} {alt:Nat->PR}
theorem tw(a:Int)(t:z):aK .pl [E a,.str t]=Z (.bool J):=(rfl)
theorem jy(a:Int)(t:z)(l:M dq):aK .LJ [E a,.str t,ct l]=Z (.bool J):=(rfl)
theorem aku{i d c e k:Nat}{r:PR}{p:dq}{b:Bool}(h:PA s d e r p k b)(j:i<=d)(l:i+c<=d+e):PA s i c r p k b:=by
 obtain⟨g,m,f,a⟩:=h;refine⟨g,by omega,f,?_⟩;cases r with
 |none=>exact a
 |some q=>exact⟨a.1,a.2.1,by have:=a.2.2;omega⟩
theorem amd(h:s.size<=mg){i:Nat}(l:i < s.size)(K:∀j,i < j->j<=s.size->CM 223 s j 0 2 J (alt j)):CM 222 s i 1 3 J (wW alt s i):=by
 have H:=wj l h;unfold wW;cases r:iB s i 40 with
 |true=>
  have d:=qZ h r;obtain⟨j,p,k,b,C,e,B⟩:=K (i+1) (by omega) (by omega);obtain⟨g,Q,t,f⟩:=B;simp only[aV,aq,ay]at e;rw[if_pos rfl];cases b with
  |true=>
   have a:=λc=>Jq (s:=s) (i:=(k:Int)) (c:=c);cases v:alt (i+1) with
   |some q=>rw[v]at f;cases f.1
   |none=>
    match j,C with
    |0,_=>exact⟨1,p,k,I,by decide,dd t222 rfl (by simp only[go_sem,t222,cp,d,a,e,aV]),g,by omega,t,rfl⟩
    |1,_=>exact⟨2,p,k,I,by decide,dd t222 rfl (by simp only[go_sem,t222,cp,d,a,e,aV]),g,by omega,t,rfl⟩
  |false=>
   cases v:alt (i+1) with
   |none=>rw[v]at f;cases f
   |some q=>
    rw[v]at f;obtain⟨_,rfl,P⟩:=f;dsimp only;cases D:iB s k 41 with
    |true=>
     have a:=qZ h D;have R:=nf D
     match j,C with
     |0,_=>exact⟨1,p,k+1,J,by decide,dd t222 rfl (by simp only[go_sem,t222,cp,d,a,e,aV]),g,by omega,by omega,rfl,rfl,by omega⟩
     |1,_=>exact⟨2,p,k+1,J,by decide,dd t222 rfl (by simp only[go_sem,t222,cp,d,a,e,aV]),g,by omega,by omega,rfl,rfl,by omega⟩
    |false=>
     have a:=qY D
     match j,C with
     |0,_=>exact⟨1,p,k,I,by decide,dd t222 rfl (by simp only[go_sem,t222,cp,d,a,e,aV]),g,by omega,t,rfl⟩
     |1,_=>exact⟨2,p,k,I,by decide,dd t222 rfl (by simp only[go_sem,t222,cp,d,a,e,aV]),g,by omega,t,rfl⟩
 |false=>
  have d:=qY r;rw[if_neg cS];cases n:iB s i 91 with
  |true=>
   have a:=qZ h n;obtain⟨p,k,b,e,B⟩:=amb (i:=i+1) h (by omega);simp only[aV,aq,ay]at e;rw[if_pos rfl];exact⟨0,p,k,b,by decide,dd t222 rfl (by simp only[go_sem,t222,cp,d,a,e,aV]),aku B (by omega) (by omega)⟩
  |false=>
   have a:=qY n;rw[if_neg cS];cases o:iB s i 46 with
   |true=>
    have A:=qZ h o;have w:=amc;rw[if_pos rfl];exact⟨0,⟨1,Q_,[]⟩,i+1,J,by decide,dd t222 rfl (by simp only[go_sem,t222,cp,d,a,A,w,aV];rfl),kY _ _ (zV _),by omega,by omega,rfl,rfl,by omega⟩
   |false=>
    have A:=qY o;have w:=c9 s i l;have G:=W5 (mF s i);have F:=N_ (mF s i);have N:=aa5 l;have L:=ajK i (by omega);rw[if_neg cS];cases m:pCh (cr s i) with
    |true=>
     simp only[l,decide_true,kv,if_true];refine⟨0,⟨1,Ep (cr s i),[]⟩,i+1,J,by decide,dd t222 rfl ?_,kY _ _ (by rw[Ep,qn];simp),by omega,by omega,rfl,rfl,by omega⟩;rw[WQ]at m;generalize fG 97 122 (cr s i)=x at *;generalize fG 48 57 (cr s i)=y at *;cases x<;>cases y<;>(try simp only[fh]at m)<;>simp only[go_sem,t222,cp,l,m,d,a,A,w,G,F,N,L,H,aV]
     all_goals rfl
    |false=>
     simp only[fO,aC,if_false];refine⟨0,⟨0,eT,[]⟩,i,I,by decide,dd t222 rfl ?_,kY _ _ Bo,by omega,by omega,rfl⟩;rw[WQ]at m;generalize fG 97 122 (cr s i)=x at *;generalize fG 48 57 (cr s i)=y at *;cases x<;>cases y<;>simp only[ir,ft,fh,Bool.true_eq_false]at m
     simp only[go_sem,t222,cp,l,m,d,a,A,w,G,F,aV];rfl
end
end
section
attribute [go_sem] JD YY ac2 ME acW rsl
section
variable (T:Nat->u KF)(cf:Cf)(mf:Mf)(a b:K)(s:St)(d:u Nat)(o:KO)(x y:u (Ex×St))
@[go_sem] theorem y1:cnd T mf (.d (.bool I)) a b s=ev T mf a s:=rfl
@[go_sem] theorem y2:cnd T mf (.d (.bool J)) a b s=ev T mf b s:=rfl
@[go_sem] theorem y3:ife (.d (.bool I)) x y=x:=rfl
@[go_sem] theorem y4:ife (.d (.bool J)) x y=y:=rfl
@[go_sem] theorem y5:gdn cf mf s d o I (.d (.bool I))=Cq cf mf s d o:=rfl
@[go_sem] theorem y6:gdn cf mf s d o J (.d (.bool J))=Cq cf mf s d o:=rfl
@[go_sem] theorem y7:gdn cf mf s d o I (.d (.bool J))=Z (s.put d .ug):=rfl
@[go_sem] theorem y8:gdn cf mf s d o J (.d (.bool I))=Z (s.put d .ug):=rfl
@[go_sem] theorem y9(w:Bool):gdn cf mf s d o w .ug=Z (s.put d .ug):=rfl
end
theorem pr(a:Int)(t:z)(l:M dq):aK (.mW 3 J) [E a,.str t,ct l]=Z (.list 3 J [[E a,.str t,ct l]]):=jf 3 _ rfl (by decide)
theorem xI(a b:Int)(t c:z)(l m:D):aK (.mW 3 J) [E a,.str t,l,E b,.str c,m]=Z (.list 3 J [[E a,.str t,l],[E b,.str c,m]]):=by
 simp[aK,chunk]
theorem HR{l:M dq}(h:l.length<=mg)(op:Int)(t:z)(a:M dq):aK (.app 3 48) [ct l,.list 3 J [[E op,.str t,ct a]]]=Z (ct (l++[⟨op,t,a⟩])):=by
 have h:=eQ 3 48 J (l.map jb) [[E op,.str t,ct a]] (by decide) (by simp only[mg,aj,aE,aJ]at *;omega);rw[h];simp[ct,aV]
theorem P1(a:Int)(t:z)(b:M dq):D.list 3 J [[E a,.str t,ct b]]=ct [⟨a,t,b⟩]:=by simp[ct,aV]
theorem P2(a b:Int)(t c:z)(e d:M dq):D.list 3 J [[E a,.str t,ct e],[E b,.str c,ct d]]=ct [⟨a,t,e⟩,⟨b,c,d⟩]:=by simp[ct,aV]
theorem Ud{l:M dq}(h:l.length<=mg)(x:dq):aK (.app 3 48) [ct l,ct [x]]=Z (ct (l++[x])):=by
 have:=HR h x.op x.text x.ae;rw[P1]at this;cases x;exact this
theorem afS(op:Int)(t:z)(a:M dq):aK (.app 3 48) [.list 3 J [],.list 3 J [[E op,.str t,ct a]]]=Z (ct [⟨op,t,a⟩]):=HR (l:=[]) (by decide) op t a
theorem cu(p:dq):(⟨p.op,p.text,p.ae⟩:dq)=p:=by cases p;rfl
theorem aey(n:Nat):∀p:dq,av p < n->xL 64 p=I->G 224 (jb p)=Z (0,jb p):=by
 induction n with
 |zero=>intro p h;omega
 |succ n y=>
  intro p C q;have r:=CA q;have d:∀k∈p.ae,G 224 (jb k)=Z (0,jb k):=λk d=>y k (by have:=dq.DB d;omega) (Cz q d);refine dd t224 (by rw[aV];rfl) ?_;have v:=vH (b:=lB G AG) p.ae (λe=>e) (λi=>(0,[E (i:Int),E p.op,.str p.text,ct p.ae,E 0,.str ⟨#[]⟩,E p.op,.str p.text]))
   (λi a=>(1,[E (i:Int),E p.op,.str p.text,ct p.ae,E 0,.str ⟨#[]⟩,E p.op,.str p.text,ct a]))
   (0,[E 0,.bool J,E p.op,.str p.text,ct p.ae,E 0,.str ⟨#[]⟩,E p.op,.str p.text])
   (λa=>(1,[E p.ae.length,.bool J,E p.op,.str p.text,ct p.ae,E 0,.str ⟨#[]⟩,E p.op,.str p.text,ct a])) (by
    intro k c;have g:=bF c;have o:=wj (i:=0) (n:=p.ae.length) g (by simp only[mg];omega);have f:=d k (bz c);have j:=KN c;rw[n0]at j;have m:IntKind.i64.wrap 1=1:=wrap_i64 (by decide);rw[aV]at f;have w:(0:Int) < p.ae.length:=by omega
    simp only[go_sem,bn,AG,n0,w,j,jj];simp only[go_sem,aV k,f,tw,pr,afS,cu,m]) (by
    intro i k c D;have g:=bF c;have o:=wj (i:=i) (n:=p.ae.length) g (by simp only[mg];omega);have f:=d k (bz c);have j:=KN c;have A:=λ(op:Int) (t:z) (x:M dq)=>HR (l:=p.ae.take i) (by rw[bj];simp only[mg];omega) op t x;rw[aV]at f;simp only[go_sem,bn,AG,eX,g,j,jj];simp only[go_sem,aV k,f,tw,pr,A,cu,o]) (by
    intro h;simp only[go_sem,bn,AG,h,n0,aJ,iz]) (by
    intro h;simp only[go_sem,bn,AG,aG,eX])
  rw[n0]at v;simp only[go_sem,t224,aV p,cp,v];cases B:p.ae with
  |nil=>simp only[go_sem,fS];rfl
  |cons s l=>simp only[go_sem,ga,eX]
theorem ame{p:dq}(a:xL 64 p=I):G 224 (jb p)=Z (0,jb p):=aey _ p (aY _) a
section
variable {s:z} {alt:Nat->PR}
theorem Sa(U:s.size<=30){i:Nat}{l:M dq}(V:l.length<=100)(P:vk s i=I)(H:CM 222 s i 1 3 J (wW alt s i)) :
  ∃(p:dq) (k:Nat) (b:Bool),lB G jw (0,[E 0,.str ⟨#[]⟩,.str s,E (i:Int),.bool J,ct l])=Z (.go (0,[E 0,.str ⟨#[]⟩,.str s,E (k:Int),.bool b,ct (l++[p])]))/\PA s i 1 (sb alt s i) p k b:=by
 have F:s.size<=mg:=by simp only[mg];omega
 have Q:l.length<=mg:=by simp only[mg];omega
 simp only[vk,af,decide_eq_true_eq,bY,decide_eq_false_iff_not]at P;obtain⟨d,g,f⟩:=P;have m:=c9 s i d;have fa:=λop t S=>HR Q op t S;have h:=λx=>Ud Q x;obtain⟨j,p,k,b,y,e,C,L,K,w⟩:=H;simp only[aV,aq,ay]at e;cases b with
 |true=>
  have a:=λc=>Jq (s:=s) (i:=(k:Int)) (c:=c);have r:sb alt s i=O:=by
   unfold sb;cases r:wW alt s i with
   |none=>rfl
   |some q=>rw[r]at w;cases w.1
  rw[r];refine⟨p,k,I,?_,C,L,K,rfl⟩
  match j,y with
  |0,_=>simp only[go_sem,d,g,f,m,e,cp,tw,jy,pr,fa,h,cu,eT,bn,jw,a]
  |1,_=>simp only[go_sem,d,g,f,m,e,cp,tw,jy,pr,fa,h,cu,eT,bn,jw,a]
  |2,_=>simp only[go_sem,d,g,f,m,e,cp,tw,jy,pr,fa,h,cu,eT,bn,jw,a]
 |false=>
  cases r:wW alt s i with
  |none=>rw[r]at w;cases w
  |some q=>
   rw[r]at w;obtain⟨_,rfl,R⟩:=w;have T:sb alt s i=Z (Eu s p k):=by rw[sb,r];rfl
   have g1:=Qn (n:=64) (by decide) (s:=s) k C;have g2:=Qm s p k;have B:=ame C;rw[aV]at B;have W:jb ⟨4,eT,[p]⟩=[E 4,.str ⟨#[]⟩,ct [p]]:=aV _;rw[T];unfold Eu at g1 g2 ⊢;cases c1:iB s k 42 with
   |true=>
    have a:=qZ F c1;have N:=nf c1;rw[c1]at g1 g2;refine⟨⟨4,eT,[p]⟩,k+1,J,?_,g1,by omega,by omega,rfl,rfl,by omega⟩
    match j,y with
    |0,_=>simp only[go_sem,d,g,f,m,e,cp,tw,jy,pr,fa,h,cu,eT,bn,jw,a,P1]
    |1,_=>simp only[go_sem,d,g,f,m,e,cp,tw,jy,pr,fa,h,cu,eT,bn,jw,a,P1]
    |2,_=>simp only[go_sem,d,g,f,m,e,cp,tw,jy,pr,fa,h,cu,eT,bn,jw,a,P1]
   |false=>
    have a:=qY c1;rw[c1]at g1 g2;cases A:iB s k 43 with
    |true=>
     have o:=qZ F A;have N:=nf A;rw[A]at g1 g2;refine⟨⟨2,eT,[p,⟨4,eT,[p]⟩]⟩,k+1,J,?_,g1,by omega,by omega,rfl,rfl,by omega⟩
     match j,y with
     |0,_=>simp only[go_sem,d,g,f,m,e,cp,tw,jy,pr,fa,h,cu,eT,bn,jw,a,o,B,P1,xI,P2]
     |1,_=>simp only[go_sem,d,g,f,m,e,cp,tw,jy,pr,fa,h,cu,eT,bn,jw,a,o,B,P1,xI,P2]
     |2,_=>simp only[go_sem,d,g,f,m,e,cp,tw,jy,pr,fa,h,cu,eT,bn,jw,a,o,B,P1,xI,P2]
    |false=>
     have o:=qY A;rw[A]at g1 g2;cases D:iB s k 63 with
     |true=>
      have v:=qZ F D;have N:=nf D;rw[D]at g1 g2;refine⟨⟨5,eT,[p]⟩,k+1,J,?_,g1,by omega,by omega,rfl,rfl,by omega⟩
      match j,y with
      |0,_=>simp only[go_sem,d,g,f,m,e,cp,tw,jy,pr,fa,h,cu,eT,bn,jw,a,o,v,P1]
      |1,_=>simp only[go_sem,d,g,f,m,e,cp,tw,jy,pr,fa,h,cu,eT,bn,jw,a,o,v,P1]
      |2,_=>simp only[go_sem,d,g,f,m,e,cp,tw,jy,pr,fa,h,cu,eT,bn,jw,a,o,v,P1]
     |false=>
      have v:=qY D;refine⟨p,k,J,?_,C,L,K,rfl,rfl,R⟩
      match j,y with
      |0,_=>simp only[go_sem,d,g,f,m,e,cp,tw,jy,pr,fa,h,cu,eT,bn,jw,a,o,v]
      |1,_=>simp only[go_sem,d,g,f,m,e,cp,tw,jy,pr,fa,h,cu,eT,bn,jw,a,o,v]
      |2,_=>simp only[go_sem,d,g,f,m,e,cp,tw,jy,pr,fa,h,cu,eT,bn,jw,a,o,v]
def YO(l:M dq)(n:Nat):Prop:=l.length<=n/\∀q∈l,xL 64 q=I
theorem oV{l:M dq}{n m:Nat}{p:dq}(h:YO l n)(b:xL 64 p=I)(c:n+1<=m):YO (l++[p]) m:=by
 refine⟨by rw[aR];have:=h.1;simp;omega,λq a=>?_⟩;rcases aS.1 a with a|a
 ·exact h.2 q a
 ·rw[bI.1 a];exact b
def RdL(i:Nat)(s:z)(l:M dq)(r:u (M dq×Nat))(a:M dq)(k:Nat)(b:Bool):Prop:=YO a 40/\i<=k/\k<=s.size/\match r with
 |some q=>b=J/\a=l++q.1/\k=q.2
 |none=>b=I
theorem ye{i j:Nat}{l a:M dq}{p:dq}{k:Nat}{b:Bool}{r:u (M dq×Nat)}(d:i<=j)(h:RdL j s (l++[p]) r a k b):RdL i s l (r.map λq=>(p::q.1,q.2)) a k b:=by
 obtain⟨n,o,m,c⟩:=h;refine⟨n,by omega,m,?_⟩;cases r with
 |none=>exact c
 |some q=>
  obtain⟨g,f,e⟩:=c;exact⟨g,by rw[f,bE];rfl,e⟩
theorem Z0(y:s.size<=30){i0:Nat}(H:∀j,i0 < j->j<=s.size->CM 223 s j 0 2 J (alt j)):∀(g i:Nat) (l:M dq),i0<=i->i<=s.size->s.size+1 - i<=g->YO l i->
  ∃(h:M dq) (k:Nat) (b:Bool),bK (lB G jw) (0,[E 0,.str ⟨#[]⟩,.str s,E (i:Int),.bool J,ct l])=Z (0,[.bool J,E 0,.str ⟨#[]⟩,.str s,E (k:Int),.bool b,ct h])/\RdL i s l (vj alt s g i) h k b:=by
 have F:s.size<=mg:=by simp only[mg];omega
 intro g
 induction g with
 |zero=>intro i l _ v K;omega
 |succ g D=>
  intro i l T v K c;simp only[vj];cases d:vk s i with
  |false=>
   simp only[aC,if_false];refine⟨l,i,J,aF ?_,⟨by have:=c.1;omega,c.2⟩,au _,v,rfl,by rw[aQ],rfl⟩;by_cases a:i < s.size
   ·have w:=c9 s i a;simp only[vk,a,decide_true,cJ]at d;by_cases r:cr s i=124
    ·simp only[go_sem,bn,jw,a,r,w]
    ·have f:cr s i=41:=by
      by_cases f:cr s i=41
      ·exact f
      ·simp[r,f]at d
     have B:¬(41:Int)=124:=by decide
     simp only[go_sem,bn,jw,a,f,B,w]
   ·simp only[go_sem,bn,jw,a]
  |true=>
   have a:i < s.size:=by simp only[vk,af,decide_eq_true_eq]at d;exact d.1
   simp only[if_true];obtain⟨p,k,b,x,o,A,m,e⟩:=Sa y (l:=l) (by have:=c.1;omega) d (amd F a λj S Q=>H j (by omega) Q);cases t:sb alt s i with
   |none=>
    rw[t]at e;subst e;refine⟨l++[p],k,I,(bB x).trans (aF ?_),oV (n:=30) ⟨by have:=c.1;omega,c.2⟩ o (by decide),A,m,rfl⟩;simp only[go_sem,bn,jw]
   |some q=>
    rw[t]at e;obtain⟨rfl,rfl,R⟩:=e;obtain⟨h,C,P,N,L⟩:=D k (l++[p]) (by omega) m (by omega) (oV c o (by omega));exact⟨h,C,P,(bB x).trans N,ye (by omega) L⟩
theorem Gw{k:dq}:aK (.Gv 3 0 3 J) [ct [k],E 0]=Z (.list 0 J [jb k]):=by
 have h:nth ([k].map jb) 0=Z (jb k):=rfl;simp only[ct,aK,Int.toNat_zero,h,KM];simp
theorem Gj{k:dq}:aK .FA [ct [k],E 0]=Z (.bool J):=(rfl)
theorem He{l:M dq}:Z' ((l.length:Int)=1)=Z' (l.length=1):=by apply decide_eq_decide.2;omega
theorem JK{op:Int}{l:M dq}(h:l.length≠1):su op l=⟨op,eT,l⟩:=by
 unfold su;split
 ·exact absurd rfl h
 ·rfl
theorem aiQ(m:s.size<=30){i:Nat}(w:i<=s.size)(o:∀j,i < j->j<=s.size->CM 223 s j 0 2 J (alt j)):CM 225 s i 0 2 J (B9 alt s i):=by
 obtain⟨f,k,b,l,h,y,x,c⟩:=Z0 m o (s.size+1) i [] (au _) w (by omega) ⟨by simp,by simp⟩;have e:aK (.mW 3 J) []=Z (ct []):=tz 3 J;have a:PA s i 0 (B9 alt s i) (su 2 f) k b:=by
  refine⟨vy (by have:=h.1;omega) h.2,y,x,?_⟩;unfold B9;cases g:vj alt s (s.size+1) i with
  |none=>rw[g]at c;exact c
  |some q=>
   rw[g]at c;obtain⟨v,t,r⟩:=c;subst t r;exact⟨v,rfl,by omega⟩
 by_cases d:f.length=1
 ·obtain⟨p,rfl⟩:=db.1 d;have n:su 2 [p]=p:=rfl;rw[n]at a;refine⟨0,p,k,b,by decide,dd t225 rfl ?_,a⟩;simp only[go_sem,t225,cp,e,l,Gw,Gj,aV p]
 ·rw[JK d]at a;refine⟨1,_,k,b,by decide,dd t225 rfl ?_,a⟩;simp only[go_sem,t225,cp,e,l,He,d,aV,eT]
theorem ZZ(B:s.size<=30){i0:Nat}(K:∀j,i0 < j->j<=s.size->CM 223 s j 0 2 J (alt j)):∀(g i:Nat) (l:M dq),i0<=i->i<=s.size->s.size+1 - i<=g->YO l (i+1)->
  ∃(e:M dq) (k:Nat) (b:Bool),bK (lB G td) (0,[E 0,.str ⟨#[]⟩,.str s,E (i:Int),.bool J,ct l])=Z (0,[.bool J,E 0,.str ⟨#[]⟩,.str s,E (k:Int),.bool b,ct e])/\RdL i s l (BG alt s g i) e k b:=by
 have H:s.size<=mg:=by simp only[mg];omega
 intro g
 induction g with
 |zero=>intro i l _ y L;omega
 |succ g F=>
  intro i l W y L a;simp only[BG];cases m:iB s i 124 with
  |false=>
   have f:=qY m;simp only[aC,if_false];refine⟨l,i,J,aF ?_,⟨by have:=a.1;omega,a.2⟩,au _,y,rfl,by rw[aQ],rfl⟩;simp only[go_sem,bn,td,f]
  |true=>
   have f:=qZ H m;have V:=nf m;have A:l.length<=mg:=by have:=a.1;simp only[mg];omega
   have X:=λx=>Ud A x;have fa:=λop t C=>HR A op t C;simp only[if_true];obtain⟨j,p,k,b,w,h,r,U,o,d⟩:=aiQ B (i:=i+1) (by omega) λj w S=>K j (by omega) S;simp only[aV,aq,ay]at h;have go:lB G td (0,[E 0,.str ⟨#[]⟩,.str s,E (i:Int),.bool J,ct l])=Z (.go (0,[E 0,.str ⟨#[]⟩,.str s,E (k:Int),.bool b,ct (l++[p])])):=by
    match j,w with
    |0,_=>simp only[go_sem,bn,td,f,h,jy,pr,fa,cu]
    |1,_=>simp only[go_sem,bn,td,f,h,jy,pr,fa,cu]
   cases v:B9 alt s (i+1) with
   |none=>
    rw[v]at d;subst d;have N:=λc=>Jq (s:=s) (i:=(k:Int)) (c:=c);refine⟨l++[p],k,I,(bB go).trans (aF ?_),oV (n:=32) ⟨by have:=a.1;omega,a.2⟩ r (by decide),by omega,o,rfl⟩;simp only[go_sem,bn,td,N]
   |some q=>
    rw[v]at d;obtain⟨rfl,rfl,T⟩:=d;obtain⟨e,D,R,Q,P⟩:=F k (l++[p]) (by omega) o (by omega) (oV a r (by omega));exact⟨e,D,R,(bB go).trans Q,ye (by omega) P⟩
theorem aex(r:s.size<=30){i:Nat}(R:i<=s.size)(B:∀j,i < j->j<=s.size->CM 223 s j 0 2 J (alt j)):CM 223 s i 0 2 J (Et alt s i):=by
 obtain⟨j,p,k,b,A,g,x,w,v,l⟩:=aiQ r R B;simp only[aV,aq,ay]at g;have L:∃(e:M dq) (a:Nat) (d:Bool),bK (lB G td) (0,[E 0,.str ⟨#[]⟩,.str s,E (k:Int),.bool b,ct [p]])=Z (0,[.bool J,E 0,.str ⟨#[]⟩,.str s,E (a:Int),.bool d,ct e])/\PA s i 0 (Et alt s i) (su 3 e) a d:=by
  unfold Et;cases y:B9 alt s i with
  |none=>
   rw[y]at l;subst l;have S:=λc=>Jq (s:=s) (i:=(k:Int)) (c:=c);exact⟨[p],k,I,aF (by simp only[go_sem,bn,td,S]),x,w,v,rfl⟩
  |some q=>
   rw[y]at l;obtain⟨rfl,rfl,U⟩:=l;obtain⟨e,a,d,f,C,V,T,o⟩:=ZZ r B (s.size+1) k [p] w v (by omega) ⟨by simp,by simpa using x⟩;refine⟨e,a,d,f,vy (by have:=C.1;omega) C.2,by omega,T,?_⟩;dsimp only;cases F:BG alt s (s.size+1) k with
   |none=>rw[F]at o;exact o
   |some q=>
    rw[F]at o;obtain⟨Q,P,N⟩:=o;subst P N;exact⟨Q,rfl,by omega⟩
 obtain⟨e,a,d,f,n⟩:=L;have K:∀(t:Nat×M D) (h:dY G (t223.t) 0 [.str s,E (i:Int),.bool J]=Z t),True:=λ_ _=>trivial;by_cases m:e.length=1
 ·obtain⟨q,rfl⟩:=db.1 m;have H:su 3 [q]=q:=rfl;rw[H]at n;refine⟨0,q,a,d,by decide,dd t223 rfl ?_,n⟩
  match j,A with
  |0,_=>simp only[go_sem,t223,cp,g,jy,pr,P1,cu,f,Gw,Gj,aV q]
  |1,_=>simp only[go_sem,t223,cp,g,jy,pr,P1,cu,f,Gw,Gj,aV q]
 ·rw[JK m]at n;refine⟨1,_,a,d,by decide,dd t223 rfl ?_,n⟩
  match j,A with
  |0,_=>simp only[go_sem,t223,cp,g,jy,pr,P1,cu,f,He,m,aV,eT]
  |1,_=>simp only[go_sem,t223,cp,g,jy,pr,P1,cu,f,He,m,aV,eT]
theorem W6(a:s.size<=30):∀(g i:Nat),i<=s.size->s.size+1 - i<=g->CM 223 s i 0 2 J (S_ s g i)
 |0,i,b,c=>by omega
 |g+1,i,b,c=>aex a b λj e d=>W6 a g j d (by omega)
end
theorem yE(n:Nat):Z' ((30:Int) < (n:Int))=Z' (30 < n):=by apply decide_eq_decide.2;omega
theorem Qa(a b:Nat):Z' ((a:Int)=(b:Int))=Z' (a=b):=by apply decide_eq_decide.2;omega
theorem aiR{s:z}:∃j p,j < 3/\G 226 [.str s]=Z (j,jb p++[.bool (jX s)])/\∀q,BH s=Z q->p=q/\xL 64 p=I:=by
 unfold jX BH;by_cases h:30 < s.size
 ·refine⟨0,⟨0,eT,[]⟩,by decide,dd t226 rfl ?_,λq a=>by rw[if_pos h]at a;cases a⟩;rw[if_pos h];simp only[go_sem,t226,cp,yE,h,aV,bO];rfl
 ·rw[if_neg h];obtain⟨j,p,k,b,f,c,i,n,m,e⟩:=W6 (s:=s) (by omega) (s.size+1) 0 (by omega) (by omega);simp only[aV,aq,ay,n0]at c;cases g:S_ s (s.size+1) 0 with
  |none=>
   rw[g]at e;subst e;refine⟨0,⟨0,eT,[]⟩,by decide,dd t226 rfl ?_,λq a=>by cases a⟩
   match j,f with
   |0,_=>simp only[go_sem,t226,cp,yE,h,c,aV,bO];rfl
   |1,_=>simp only[go_sem,t226,cp,yE,h,c,aV,bO];rfl
  |some q=>
   rw[g]at e;obtain⟨rfl,rfl,l⟩:=e;dsimp only;by_cases d:k=s.size
   ·rw[if_pos d];refine⟨j+1,p,by omega,dd t226 rfl ?_,λq a=>by cases a;exact⟨rfl,i⟩⟩
    match j,f with
    |0,_=>simp only[go_sem,t226,cp,yE,h,c,d,aV,cZ]
    |1,_=>simp only[go_sem,t226,cp,yE,h,c,d,aV,cZ]
   ·rw[if_neg d];refine⟨0,⟨0,eT,[]⟩,by decide,dd t226 rfl ?_,λq a=>by cases a⟩
    match j,f with
    |0,_=>simp only[go_sem,t226,cp,yE,Qa,h,c,d,aV,bO];rfl
    |1,_=>simp only[go_sem,t226,cp,yE,Qa,h,c,d,aV,bO];rfl
theorem aaM(s:z):G 227 [.str s]=Z (0,[.bool (jX s)]):=by
 obtain⟨j,p,b,a,_⟩:=aiR (s:=s);simp only[aV,aq,ay]at a;refine dd t227 rfl ?_
 match j,b with
 |0,_=>simp only[go_sem,t227,a]
 |1,_=>simp only[go_sem,t227,a]
 |2,_=>simp only[go_sem,t227,a]
theorem aaN{t s:z}(g:s.size<=mg):G 236 [.str t,.str s]=Z (0,[.bool (uf t s)]):=by
 obtain⟨j,p,f,a,h⟩:=aiR (s:=t);simp only[aV,aq,ay]at a;have Qr:∀b,aK .pl [.bool b]=Z (.bool J):=λb=>rfl;refine dd t236 rfl ?_;unfold uf;cases d:BH t with
 |none=>
  have e:jX t=J:=by rw[jX,d];rfl
  rw[e]at a
  match j,f with
  |0,_=>simp only[go_sem,t236,a]
  |1,_=>simp only[go_sem,t236,a]
  |2,_=>simp only[go_sem,t236,a]
 |some q=>
  have e:jX t=I:=by rw[jX,d];rfl
  obtain⟨rfl,i⟩:=h q d;have c:=amh g i;simp only[aV,aq,ay]at c;rw[e]at a
  match j,f with
  |0,_=>simp only[go_sem,t236,a,c,Qr]
  |1,_=>simp only[go_sem,t236,a,c,Qr]
  |2,_=>simp only[go_sem,t236,a,c,Qr]
end
section
def bC(f:Nat->Bool):M C:=(bW 256).map λx=>.d (.bool (f x))
def bV(f:Nat->Bool):M RV:=(bW 256).map λx=>.d (.bool (f x))
def eL(f:Nat->Bool)(n:Nat):M (M D):=((bW n).filter f).map λx:Nat=>[D.int .u8 (x:Int)]
def Y4(f:Nat->Bool):z:=⟨(((bW 256).filter f).map dX).toArray⟩
theorem mz:((0:Nat):Int)=0:=(rfl)
theorem PK(f:Nat->Bool)(d:Nat):∀(l:M Nat) (j:Nat) (s:St),er d j (l.map λx=>RV.d (.bool (f x))) s=(l.map λx=>C.d (.bool (f x)),s)
 |[],j,s=>rfl
 |x::l,j,s=>by
  simp only[aW,er,PK f d l (j+1) s]
theorem ahl(f:Nat->Bool)(d j:Nat)(s:St):er d j (bV f) s=(bC f,s):=PK f d _ j s
theorem G7(f:Nat->Bool)(i:Nat):∀(l:M Nat),C.jD i (l.map λx=>C.d (.bool (f x)))=l.map λx=>C.d (.bool (f x))
 |[]=>rfl
 |x::l=>by simp only[aW,C.jD,C.kill,G7 f i l]
theorem pa(f:Nat->Bool)(i:Nat):C.jD i (bC f)=bC f:=G7 f i _
theorem sG(f:Nat->Bool):(bC f).all C.cell=I:=by rw[bC,List.all_map];exact bg.2 λx _=>rfl
theorem rH(f:Nat->Bool):(bC f).all C.const=I:=by rw[bC,List.all_map];exact bg.2 λx _=>rfl
theorem oE(f:Nat->Bool):(bC f).length=256:=by simp[bC]
theorem aaj{a:Type}{f:Nat->a}{n x:Nat}(h:x < n):nth ((bW n).map f) x=Z (f x):=by
 rw[fU];simp[h]
theorem acC(f:Nat->Bool){x:Nat}(h:x < 256):nth (bC f) x=Z (.d (.bool (f x))):=aaj h
theorem Y9(f:Nat->Bool)(n:Nat):eL f (n+1)=eL f n++(if f n=I then [[D.int .u8 (n:Int)]] else []):=by
 simp only[eL,List.range_succ,List.filter_append,bR]
 congr 1
 by_cases h:f n=I<;>simp[h]
theorem acQ(f:Nat->Bool)(n:Nat):(eL f n).length<=n:=by
 have:=wI f (bW n)
 simpa [eL] using this
theorem F_:∀(l:M Nat),bytesOf (l.map λx:Nat=>[D.int .u8 (x:Int)])=Z (l.map λx:Nat=>(x:Int))
 |[]=>rfl
 |x::l=>by simp only[aW,bytesOf,F_ l,aH]
abbrev vl:M C:=[.d (.int .i64 0),.d (.str ⟨#[]⟩),.nil 3 J]
def HB(f:Nat->Bool)(i:Nat):St:=⟨[(1,.ptr 1 0),(2,.ptr 2 0),(3,.ref 5),(6,.d (.int .i64 (i:Int)))],[(1,bC f),(2,vl)],[(5,⟨eL f i,1,I,I,I,J⟩)]⟩
theorem Z3(f:Nat->Bool):ev T ya (.loop yV) (HB f 0)=Z (.exit 0,⟨[(1,.ptr 1 0),(2,.ptr 2 0),(3,.ref 5),(6,.d (E 256)),(7,.d (.bool J))],[(1,bC f),(2,vl)],[(5,⟨eL f 256,1,I,I,I,J⟩)]⟩):=by
 refine ahX (HB f) 256 (λh=>by cases h) ?_ ?_
 ·simp only[go_sem,reduceIte,cL,bP,cX,bH,cW,cU,cY,dQ,dv,du,yV,HB,show ((256:Nat):Int)=256 from rfl]
 ·intro i b;have k:((i:Int) < 256)=True:=by simp;omega
  have g:IntKind.i64.wrap ((i:Int)+1)=((i+1:Nat):Int):=wi b (by decide);have j:IntKind.u8.wrap (i:Int)=(i:Int):=wrap_u8 (by omega);have a:=acC f b;have e:=Y9 f i;have n:=acQ f i;have m:((eL f i).length+1<=room)=True:=eq_true (by simp only[room];omega);have l:((eL f i).length+1<=maxLen)=True:=eq_true (by simp only[maxLen];omega);cases c:f i with
  |true=>
   rw[c,if_pos rfl]at e;rw[c]at a;simp only[go_sem,reduceIte,cL,bP,cX,bH,cW,cU,cY,dQ,dv,du,yV,HB,k,g,j,a,b,pa,pw,m,l,e,rD]
  |false=>
   rw[c,if_neg cS,aQ]at e;rw[c]at a;simp only[go_sem,reduceIte,cL,bP,cX,bH,cW,cU,cY,dQ,dv,du,yV,HB,k,g,j,a,b,pa,pw,e,rD]
theorem ai2(f:Nat->Bool):fP T 276 [.val I (bV f)]=Z ([.val I [.d (E 1),.d (.str (Y4 f)),.row ⟨[],3,J,I,I,J⟩]],[]):=by
 have b:=Z3 f;have g:eL f 0=[]:=rfl;have c:bytesOf (eL f 256)=Z (((bW 256).filter f).map λx:Nat=>(x:Int)):=F_ _;have a:(((bW 256).filter f).map λx:Nat=>(x:Int)).map (λn=>dX n.toNat)=((bW 256).filter f).map dX:=by
  rw[List.map_map];rfl
 generalize h:(((bW 256).filter f).map λx:Nat=>(x:Int))=q at c a;have e:(⟨(q.map λn=>dX n.toNat).toArray⟩:z)=Y4 f:=by rw[a];rfl
 rw[AW (f:=276) rfl rfl];simp only[HB,g,vl,show ((0:Nat):Int)=0 from rfl]at b;simp only[go_sem,reduceIte,cL,bP,cX,bH,cW,cU,cY,dQ,dv,du,ahl,sG,pa,b,c,e]
abbrev mgK:Nat:=33554432
abbrev mZ(s:z)(i:Int)(b:Bool):A:=.box [.d (.str s),.d (.int .i64 i),.d (.bool b)]
abbrev bt(c:Int):A:=.val J [.d (.int .u8 c)]
abbrev ys(b:Bool):A:=.val J [.d (.bool b)]
theorem IB{s:z}{i e k c:Int}{b a t:Bool}{op:Int}{tx:z}{kd:RV}(h:(∃es,kd=.d (.list 3 J es))\/∃es,kd=.row ⟨es,3,J,J,I,I⟩)
  (m:fP T 275 [mZ s i b,bt 40]=Z ([ys I],[mZ s e b])) (l:fP T 280 [mZ s e b]=Z ([.val I [.d (E op),.d (.str tx),kd]],[mZ s k a]))
  (j:fP T 275 [mZ s k a,bt 41]=Z ([ys t],[mZ s c a])):fP T 279 [mZ s i b]=Z ([.val I [.d (E op),.d (.str tx),kd]],[mZ s c (a ||!t)]):=by
 have g:(bc 256 (C.d (.bool J)))=bC λ_=>J:=by rw[bC,qc];simp
 conv at g=>lhs;reduce
 rw[AW (f:=279) rfl rfl,g];rcases h with ⟨es,rfl⟩|⟨es,rfl⟩<;>cases t<;>cases a<;>simp only[go_sem,reduceIte,cL,bP,cX,bH,cW,cU,cY,dQ,dv,du,sG,rH,pa,oE,m,l,j,bH]
theorem Uh(f:Nat->Bool){x:Nat}(h:x < 256):List.take x (bC f)++[C.d (.bool I)]++List.drop (x+1) (bC f)=bC λy=>f y ||decide (x=y):=by
 apply List.ext_getElem
 ·simp[bC];omega
 intro i l c;simp only[oE]at c;have e:∀g:Nat->Bool,(bC g)[i]'(by rw[oE];exact c)=C.d (.bool (g i)):=λg=>by simp[bC]
 rw[e];have a:((bC f).take x).length=x:=by simp[bC];omega
 by_cases k:i < x
 ·rw[tK (by simp[a];omega),tK (by omega),List.getElem_take,e];have:¬x=i:=by omega
  simp[this]
 ·by_cases b:i=x
  ·subst b;rw[tK (by simp[a]),List.getElem_append_right (by omega)];simp[a]
  ·rw[List.getElem_append_right (by simp[a];omega),List.getElem_drop];have j:x+1+(i - (List.take x (bC f)++[C.d (D.bool I)]).length)=i:=by simp[a];omega
   simp only[j];rw[e];have:¬x=i:=by omega
   simp[this]
theorem yi(f:Nat->Bool):List.drop 256 (bC f)=[]:=eJ (by rw[oE];exact au _)
theorem yj(f:Nat->Bool):List.take 256 (bC f)=bC f:=gT (by rw[oE];exact au _)
theorem Xh(f:Nat->Bool)(s:St):∀(l:M Nat),gJ (mJ s) (l.map λx=>C.d (.bool (f x)))=Z (l.map λx=>RV.d (.bool (f x)))
 |[]=>rfl
 |x::l=>by simp only[aW,gJ,mJ,Xh f s l,aH]
theorem Xg(f:Nat->Bool)(s:St):gJ (mJ s) (bC f)=Z (bV f):=Xh f s _
theorem L3(f:Nat->Bool):∀(l:M Nat),rowsOf (l.map λx=>C.d (.bool (f x)))=[]
 |[]=>rfl
 |x::l=>by simp only[aW,rowsOf,L3 f l]
theorem EA(f:Nat->Bool):rowsOf (bC f)=[]:=L3 f _
abbrev uz(x:Nat):Nat->Bool:=λy=>decide (32<=y) && decide (y < x)
def st0(c:M C)(x:Nat):St:=⟨[(0,.ptr 900 0),(2,.ptr 2 0),(3,.ptr 3 0),(5,.d (.int .i64 (x:Int)))],[(2,vl),(3,bC (uz x)),(900,c)],[]⟩
theorem acv{x:Nat}(h:32<=x):(λy=>uz x y ||decide (x=y))=uz (x+1):=by
 funext y
 simp only[uz];by_cases a:32<=y
 ·by_cases c:y < x
  ·have:y < x+1:=by omega
   simp[a,c,this]
  ·by_cases b:x=y
   ·subst b;simp[a]
   ·have:¬y < x+1:=by omega
    simp[a,c,b,this]
 ·have:¬x=y:=by omega
  simp[a,this]
theorem Si(c:M C):ev T ya (.loop vT) (st0 c 32)=Z (.exit 1,⟨[(0,.ptr 900 0),(2,.ptr 2 0),(3,.ptr 3 0),(5,.d (E 127)),(28,.d (.bool J))],[(2,vl),(3,bC (uz 127)),(900,c)],[]⟩):=by
 have h:∀m x,x+m=127->32<=x->ev T ya (.loop vT) (st0 c x)=Z (.exit 1,⟨[(0,.ptr 900 0),(2,.ptr 2 0),(3,.ptr 3 0),(5,.d (E 127)),(28,.d (.bool J))],[(2,vl),(3,bC (uz 127)),(900,c)],[]⟩):=by
  intro m
  induction m with
  |zero=>
   intro x f _;obtain rfl:x=127:=by omega
   rw[jh];simp only[go_sem,reduceIte,cL,bP,cX,bH,cW,cU,cY,dQ,dv,du,vT,st0,show ((127:Nat):Int)=127 from rfl]
  |succ m e=>
   intro x f a;have l:((x:Int)<=126)=True:=eq_true (by omega);have g:IntKind.i64.wrap ((x:Int)+1)=((x+1:Nat):Int):=wi (n:=127) (by omega) (by decide);have k:(x < 256)=True:=eq_true (by omega);have j:(x+1<=256)=True:=eq_true (by omega);have b:=Uh (uz x) (x:=x) (by omega);rw[acv a]at b;have i:ev T ya vT (st0 c x)=Z (.norm,st0 c (x+1)):=by
    simp only[go_sem,reduceIte,cL,bP,cX,bH,cW,cU,cY,dQ,dv,du,vT,st0,l,g,k,j,b,oE,pw,bD,rD]
   rw[jh,i];exact e (x+1) (by omega) (by omega)
 exact h 95 32 rfl (by omega)
theorem adE{s:z}{i a:Int}{b:Bool}(j:fP T 275 [mZ s i b,bt 40]=Z ([ys J],[mZ s i b]))(h:fP T 275 [mZ s i b,bt 46]=Z ([ys I],[mZ s a b])) :
  fP T 279 [mZ s i b]=Z ([.val I [.d (E 1),.d (.str (Y4 (uz 127))),.row ⟨[],3,J,I,I,J⟩]],[mZ s a b]):=by
 have c:(bc 256 (C.d (.bool J)))=bC (uz 32):=by
  have:uz 32=λ_=>J:=by funext y;simp[uz]
  rw[this,bC,qc];simp
 have e:=Si [.d (.str s),.d (E a),.d (.bool b)];simp only[st0,vl,show ((32:Nat):Int)=32 from rfl]at e;have g:=ai2 (uz 127)
 conv at c=>lhs;reduce
 rw[AW (f:=279) rfl rfl,c];simp only[go_sem,reduceIte,cL,bP,cX,bH,cW,cU,cY,dQ,dv,du,sG,rH,pa,oE,yi,yj,Xg,EA,j,h,e,g,bH]
theorem V7{s:z}{i l a:Int}{b o:Bool}(j:fP T 275 [mZ s i b,bt 40]=Z ([ys J],[mZ s i b]))(h:fP T 275 [mZ s i b,bt 46]=Z ([ys J],[mZ s i b]))(g:fP T 275 [mZ s i b,bt 91]=Z ([ys J],[mZ s i b]))
  (e:fP T 278 [mZ s i b]=Z ([.val J [.d (.int .u8 a)]],[mZ s l o])) :
  fP T 279 [mZ s i b]=Z ([.val I [.d (E 1),.d (.str ⟨[dX a.toNat].toArray⟩),.row ⟨[],3,J,I,I,J⟩]],[mZ s l (o ||(Z' (a=95) ||decide (a=46)))]):=by
 have m:(bc 256 (C.d (.bool J)))=bC (uz 32):=by
  have:uz 32=λ_=>J:=by funext y;simp[uz]
  rw[this,bC,qc];simp
 conv at m=>lhs;reduce
 rw[AW (f:=279) rfl rfl,m];by_cases c1:a=95
 ·have c:(a=95)=True:=eq_true c1;simp only[go_sem,reduceIte,cL,bP,cX,bH,cW,cU,cY,dQ,dv,du,sG,rH,pa,oE,yi,yj,Xg,EA,j,h,g,e,c,bytesOf,bH]
 ·have c:(a=95)=False:=eq_false c1;by_cases n:a=46
  ·have k:(a=46)=True:=eq_true n;simp only[go_sem,reduceIte,cL,bP,cX,bH,cW,cU,cY,dQ,dv,du,sG,rH,pa,oE,yi,yj,Xg,EA,j,h,g,e,c,k,bytesOf,bH]
  ·have k:(a=46)=False:=eq_false n;simp only[go_sem,reduceIte,cL,bP,cX,bH,cW,cU,cY,dQ,dv,du,sG,rH,pa,oE,yi,yj,Xg,EA,j,h,g,e,c,k,bytesOf,bH]
abbrev rC(s:z)(i:Int)(b:Bool):M C:=[.d (.str s),.d (.int .i64 i),.d (.bool b)]
def XF(c:M C)(n:Nat)(a x:Nat)(f:Nat->Bool):St:=⟨[(0,.ptr 900 0),(2,.ptr 2 0),(3,.ptr 3 0),(6,.d (.int .i64 (n:Int))),(8,.d (.int .u8 (a:Int))),(9,.d (.int .i64 (x:Int)))],[(2,vl),(3,bC f),(900,c)],[]⟩
def rg(f:Nat->Bool)(x a:Nat):Nat->Bool:=λy=>f y ||(Z' (x<=y) && Z' (y<=a))
theorem ab6{f:Nat->Bool}{x a:Nat}(h:a < x):rg f x a=f:=by
 funext y
 unfold rg;by_cases b:x<=y
 ·have:¬y<=a:=by omega
  simp[this]
 ·simp[b]
theorem ang{f:Nat->Bool}{x a:Nat}(h:x<=a):rg (λy=>f y ||decide (x=y)) (x+1) a=rg f x a:=by
 funext y
 unfold rg;by_cases b:x=y
 ·subst b;simp[h]
 ·by_cases c:x<=y
  ·have:x+1<=y:=by omega
   simp[b,c,this]
  ·have:¬x+1<=y:=by omega
   simp[b,c,this]
theorem G_(c:M C)(n a:Nat)(j:a < 256):∀(m x:Nat) (f:Nat->Bool),x+m=a+1->∃b:Int,ev T ya (.loop pc) (XF c n a x f)=Z (.exit 5,⟨[(0,.ptr 900 0),(2,.ptr 2 0),(3,.ptr 3 0),(6,.d (E (n:Int))),(8,.d (.int .u8 (a:Int))),(9,.d (E b)),(72,.d (.bool J))],[(2,vl),(3,bC (rg f x a)),(900,c)],[]⟩)
 |0,x,f,k=>by
  have h:((x:Int)<=(a:Int))=False:=eq_false (by omega);have g:IntKind.i64.wrap (a:Int)=(a:Int):=ij (by omega);refine⟨x,?_⟩;rw[ab6 (by omega),jh];simp only[go_sem,reduceIte,cL,bP,cX,bH,cW,cU,cY,dQ,dv,du,pc,XF,h,g]
 |m+1,x,f,k=>by
  have h:((x:Int)<=(a:Int))=True:=eq_true (by omega);have e:IntKind.i64.wrap (a:Int)=(a:Int):=ij (by omega);have g:IntKind.i64.wrap ((x:Int)+1)=((x+1:Nat):Int):=wi (n:=256) (by omega) (by decide);have q:(x < 256)=True:=eq_true (by omega);have p:(x+1<=256)=True:=eq_true (by omega);have l:=Uh f (x:=x) (by omega);obtain⟨b,i⟩:=G_ c n a j m (x+1) (λy=>f y ||decide (x=y)) (by omega);rw[ang (by omega)]at i;have o:ev T ya pc (XF c n a x f)=Z (.norm,XF c n a (x+1) (λy=>f y ||decide (x=y))):=by
   simp only[go_sem,reduceIte,cL,bP,cX,bH,cW,cU,cY,dQ,dv,du,pc,XF,h,g,e,q,p,l,oE,pw,bD,rD]
  refine⟨b,?_⟩;rw[jh,o];exact i
theorem DV(c:M C)(n a x:Nat)(f:Nat->Bool)(e:a < 256)(j:x < 256):∃b:Int,ev T ya (.loop pc) (XF c n a x f)=Z (.exit 5,⟨[(0,.ptr 900 0),(2,.ptr 2 0),(3,.ptr 3 0),(6,.d (E (n:Int))),(8,.d (.int .u8 (a:Int))),(9,.d (E b)),(72,.d (.bool J))],[(2,vl),(3,bC (rg f x a)),(900,c)],[]⟩):=by
 by_cases h:x<=a+1
 ·exact G_ c n a e (a+1 - x) x f (by omega)
 ·have i:((x:Int)<=(a:Int))=False:=eq_false (by omega);have g:IntKind.i64.wrap (a:Int)=(a:Int):=ij (by omega);refine⟨x,?_⟩;rw[ab6 (by omega),jh];simp only[go_sem,reduceIte,cL,bP,cX,bH,cW,cU,cY,dQ,dv,du,pc,XF,i,g]
def Fq(s:z)(i:Int)(b:Bool)(n:Nat)(f:Nat->Bool):St:=⟨[(0,.ptr 900 0),(2,.ptr 2 0),(3,.ptr 3 0),(6,.d (.int .i64 (n:Int)))],[(2,vl),(3,bC f),(900,rC s i b)],[]⟩
theorem Dr{s:z}{i B i2 i3:Int}{o b3 t:Bool}{n a z0:Nat}{f:Nat->Bool}(H:n<=mgK)(y:a < 256)(F:z0 < 256)(r:n=0\/fP T 275 [mZ s i J,bt 93]=Z ([ys J],[mZ s i J]))
  (m:fP T 278 [mZ s i J]=Z ([.val J [.d (.int .u8 (a:Int))]],[mZ s B o]))
  (l:fP T 275 [mZ s B o,bt 126]=Z ([ys t],[mZ s i2 o]))
  (G:t=I->fP T 278 [mZ s i2 o]=Z ([.val J [.d (.int .u8 (z0:Int))]],[mZ s i3 b3])) :
  ev T ya iO (Fq s i J n f)=Z (.norm,Fq s (if t then i3 else i2) ((if t then b3 else o) ||(t && Z' (z0 < a))) (n+1) (rg f a (if t then z0 else a))):=by
 have e:IntKind.i64.wrap ((n:Int)+1)=((n+1:Nat):Int):=wi (n:=mgK+1) (by omega) (by decide);have c:IntKind.i64.wrap (a:Int)=(a:Int):=ij (by omega);have A:∀(P:Prop),(n=0->P)->(¬n=0->fP T 275 [mZ s i J,bt 93]=Z ([ys J],[mZ s i J])->P)->P:=λP D C=>by
  by_cases h:n=0
  ·exact D h
  ·rcases r with r|r
   ·exact absurd r h
   ·exact C h r
 cases t with
 |false=>
  obtain⟨w,b⟩:=DV (rC s i2 o) n a a f y y;have k:((a:Int) < (a:Int))=False:=eq_false (by omega);simp only[XF]at b;refine A _ (λj=>?_) (λj q=>?_)
  ·subst j;simp only[show ((0:Nat):Int)=0 from rfl,bD,qG]at b e ⊢;simp only[go_sem,reduceIte,cL,bP,cX,bH,cW,cU,cY,dQ,dv,du,iO,Fq,mz,m,l,k,c,b,e,qG]
  ·have p:((n:Int)=0)=False:=eq_false (by omega);simp only[go_sem,reduceIte,cL,bP,cX,bH,cW,cU,cY,dQ,dv,du,iO,Fq,m,l,q,p,k,c,b,e]
 |true=>
  have g:=G rfl;have fin:∀(x:Bool),x=(b3 ||decide (z0 < a))->∃w:Int,ev T ya (.loop pc) (XF (rC s i3 x) n z0 a f)=Z (.exit 5,⟨[(0,.ptr 900 0),(2,.ptr 2 0),(3,.ptr 3 0),(6,.d (E (n:Int))),(8,.d (.int .u8 (z0:Int))),(9,.d (E w)),(72,.d (.bool J))],[(2,vl),(3,bC (rg f a z0)),(900,rC s i3 x)],[]⟩):=λx _=>DV _ n z0 a f F y;by_cases k:z0 < a
  ·obtain⟨w,b⟩:=fin I (by simp[k]);have v:((z0:Int) < (a:Int))=True:=eq_true (by omega);simp only[XF]at b;simp only[k,decide_true,kv,ft,if_true];refine A _ (λj=>?_) (λj q=>?_)
   ·subst j;simp only[show ((0:Nat):Int)=0 from rfl,bD,qG]at b e ⊢;simp only[go_sem,reduceIte,cL,bP,cX,bH,cW,cU,cY,dQ,dv,du,iO,Fq,mz,m,l,g,v,c,b,e,qG]
   ·have p:((n:Int)=0)=False:=eq_false (by omega);simp only[go_sem,reduceIte,cL,bP,cX,bH,cW,cU,cY,dQ,dv,du,iO,Fq,m,l,g,q,p,v,c,b,e]
  ·obtain⟨w,b⟩:=fin b3 (by simp[k]);have v:((z0:Int) < (a:Int))=False:=eq_false (by omega);simp only[XF]at b;simp only[k,decide_false,fO,ew,if_true];refine A _ (λj=>?_) (λj q=>?_)
   ·subst j;simp only[show ((0:Nat):Int)=0 from rfl,bD,qG]at b e ⊢;simp only[go_sem,reduceIte,cL,bP,cX,bH,cW,cU,cY,dQ,dv,du,iO,Fq,mz,m,l,g,v,c,b,e,qG]
   ·have p:((n:Int)=0)=False:=eq_false (by omega);simp only[go_sem,reduceIte,cL,bP,cX,bH,cW,cU,cY,dQ,dv,du,iO,Fq,m,l,g,q,p,v,c,b,e]
theorem GY{s:z}{i:Int}{n:Nat}{f:Nat->Bool}:ev T ya (.loop iO) (Fq s i I n f)=Z (.exit 3,⟨[(0,.ptr 900 0),(2,.ptr 2 0),(3,.ptr 3 0),(6,.d (E (n:Int))),(51,.d (.bool J))],[(2,vl),(3,bC f),(900,rC s i I)],[]⟩):=by
 rw[jh];simp only[go_sem,reduceIte,cL,bP,cX,bH,cW,cU,cY,dQ,dv,du,iO,Fq]
theorem R1{s:z}{i a:Int}{n:Nat}{f:Nat->Bool}(e:n≠0)(c:fP T 275 [mZ s i J,bt 93]=Z ([ys I],[mZ s a J])) :
  ev T ya (.loop iO) (Fq s i J n f)=Z (.exit 3,⟨[(0,.ptr 900 0),(2,.ptr 2 0),(3,.ptr 3 0),(6,.d (E (n:Int))),(51,.d (.bool J))],[(2,vl),(3,bC f),(900,rC s a J)],[]⟩):=by
 have b:((n:Int)=0)=False:=eq_false (by omega);rw[jh];simp only[go_sem,reduceIte,cL,bP,cX,bH,cW,cU,cY,dQ,dv,du,iO,Fq,c,b]
theorem V6{s:z}{i a k:Int}{b g:Bool}{n:Int}{f:Nat->Bool}(m:fP T 275 [mZ s i b,bt 40]=Z ([ys J],[mZ s i b]))(l:fP T 275 [mZ s i b,bt 46]=Z ([ys J],[mZ s i b]))(j:fP T 275 [mZ s i b,bt 91]=Z ([ys I],[mZ s a b]))
  (e:ev T ya (.loop iO) (Fq s a b 0 λ_=>J)=Z (.exit 3,⟨[(0,.ptr 900 0),(2,.ptr 2 0),(3,.ptr 3 0),(6,.d (E n)),(51,.d (.bool J))],[(2,vl),(3,bC f),(900,rC s k g)],[]⟩)) :
  fP T 279 [mZ s i b]=Z ([.val I [.d (E 1),.d (.str (Y4 f)),.row ⟨[],3,J,I,I,J⟩]],[mZ s k g]):=by
 have c:(bc 256 (C.d (.bool J)))=bC λ_=>J:=by rw[bC,qc];simp
 have h:=ai2 f;simp only[Fq,mz]at e
 conv at c=>lhs;reduce
 rw[AW (f:=279) rfl rfl,c];simp only[go_sem,reduceIte,cL,bP,cX,bH,cW,cU,cY,dQ,dv,du,sG,rH,pa,oE,yi,yj,Xg,EA,m,l,j,e,h,bH]
end
section
theorem nk{s:z}{i:Nat}{c:Int}{b:Bool}(e:s.size<=mg)(h:iB s i c=I):G 275 [.str s,E (i:Int),.bool b,.int .u8 c]=Z (0,[.bool I,.str s,E ((i+1:Nat):Int),.bool b]):=by
 obtain⟨a,f⟩:=mw.1 h;have d:=wj a e;refine dd t275 rfl ?_;simp only[go_sem,t275,a,f,c9 _ _ a,d]
theorem nR{s:z}{i:Nat}{c:Int}{b:Bool}(h:iB s i c=J):G 275 [.str s,E (i:Int),.bool b,.int .u8 c]=Z (0,[.bool J,.str s,E (i:Int),.bool b]):=by
 refine dd t275 rfl ?_;by_cases a:i < s.size
 ·have d:=PM h a;simp only[go_sem,t275,a,d,c9 _ _ a]
 ·simp only[go_sem,t275,a]
theorem ai3(b:Int):G 277 [.int .u8 b]=Z (0,[.bool (M3 b)]):=by
 refine dd t277 rfl ?_;unfold M3;cases f:fG 97 122 b<;>cases e:fG 48 57 b<;>simp only[go_sem,t277,aaO,aeH,f,e]
 by_cases d:b=95
 ·simp only[go_sem,d]
 ·by_cases c:b=45
  ·simp only[go_sem,c]
  ·by_cases a:b=46
   ·simp only[go_sem,a]
   ·simp only[go_sem,d,c,a]
def AZ(s:z)(i:Nat):Bool:=Z' (i < s.size) && M3 (cr s i)
theorem Jr{s:z}{i:Nat}{b:Bool}(f:s.size<=mg)(h:AZ s i=I):G 278 [.str s,E (i:Int),.bool b]=Z (0,[.int .u8 (cr s i),.str s,E ((i+1:Nat):Int),.bool b]):=by
 simp only[AZ,af,decide_eq_true_eq]at h;obtain⟨a,g⟩:=h;have e:=wj a f;have c:=ai3 (cr s i);have k:=c9 s i a;have j:=ajK i (by omega);have d:¬s.size<=i:=by omega
 rw[g]at c;refine dd t278 rfl ?_;simp only[go_sem,t278,ot,d,c,k,j,e]
theorem Ey{s:z}{i:Nat}{b:Bool}(h:AZ s i=J):G 278 [.str s,E (i:Int),.bool b]=Z (0,[.int .u8 0,.str s,E (i:Int),.bool I]):=by
 refine dd t278 rfl ?_;by_cases c:i < s.size
 ·simp only[AZ,c,decide_true,cJ]at h;have d:=ai3 (cr s i);have e:=c9 s i c;have a:¬s.size<=i:=by omega
  rw[h]at d;simp only[go_sem,t278,ot,a,d,e]
 ·have a:s.size<=i:=by omega
  simp only[go_sem,t278,ot,a]
theorem aeN(n:Nat):∀p:dq,av p < n->xL 64 p=I->G 281 (jb p)=Z (0,jb p):=by
 induction n with
 |zero=>intro p h;omega
 |succ n r=>
  intro p x e;have f:=CA e;have d:∀k∈p.ae,G 281 (jb k)=Z (0,jb k):=λk d=>r k (by have:=dq.DB d;omega) (Cz e d);refine dd t281 (by rw[aV];rfl) ?_;have g:=fM (b:=lB G IZ) p.ae (λi (a:M dq)=>(0,[ct p.ae,E p.ae.length,E (i:Int),E p.op,.str p.text,ct p.ae,E 0,.str ⟨#[]⟩,ct a])) (λi=>p.ae.take i) (0,[ct p.ae,E p.ae.length,E p.ae.length,.bool J,E p.op,.str p.text,ct p.ae,E 0,.str ⟨#[]⟩,ct p.ae]) (by
   intro i k c;have j:=bF c;have s:=wj (i:=i) (n:=p.ae.length) j (by simp only[mg];omega);have m:=d k (bz c);have w:=KN c;have v:=λ(op:Int) (t:z) (q:M dq)=>HR (l:=p.ae.take i) (by rw[bj];simp only[mg];omega) op t q;rw[aV]at m;rw[cx _ _ _ c];simp only[go_sem,bn,IZ,j,w,jj];simp only[go_sem,aV k,m,tw,pr,v,cu,s]) (by
   rw[bN];simp only[go_sem,bn,IZ,aG]) p.ae.length 0 (by omega)
  have o:aK (.mW 3 J) []=Z (ct []):=tz 3 J;rw[n0,dw]at g;simp only[go_sem,t281,aV p,cp,o,g]
theorem amB{p:dq}(a:xL 64 p=I):G 281 (jb p)=Z (0,jb p):=aeN _ p (aY _) a
theorem vd{s:z}{i d:Nat}{c:Int}{b t:Bool}(h:G 275 [.str s,E (i:Int),.bool b,.int .u8 c]=Z (0,[.bool t,.str s,E (d:Int),.bool b])):fP T 275 [mZ s i b,bt c]=Z ([ys t],[mZ s d b]):=by
 obtain⟨a,r,v,j,g,f,e⟩:=CK T nY 275 _ rfl _ _ _ h;cases j;cases g;cases f
 exact e
theorem Jc{s:z}{i c:Nat}{a:Int}{b e:Bool}(h:G 278 [.str s,E (i:Int),.bool b]=Z (0,[.int .u8 a,.str s,E (c:Int),.bool e])):fP T 278 [mZ s i b]=Z ([.val J [.d (.int .u8 a)]],[mZ s c e]):=by
 obtain⟨l,r,v,k,j,g,f⟩:=CK T nY 278 _ rfl _ _ _ h;cases k;cases j;cases g
 exact f
theorem Wn{s:z}{i k:Nat}{p:dq}{b a:Bool}(h:G 280 [.str s,E (i:Int),.bool b]=Z (0,jb p++[.str s,E (k:Int),.bool a])) :
  fP T 280 [mZ s i b]=Z ([.val I [.d (E p.op),.d (.str p.text),.d (.list 3 J (p.ae.map jb))]],[mZ s k a]):=by
 rw[aV]at h;obtain⟨j,r,v,g,f,e,c⟩:=CK T nY 280 _ rfl _ _ _ h;cases g;cases f;cases e
 exact c
theorem Wo{s:z}{i k:Nat}{p:dq}{b a:Bool}(h:G 280 [.str s,E (i:Int),.bool b]=Z (1,jb p++[.str s,E (k:Int),.bool a])) :
  fP T 280 [mZ s i b]=Z ([.val I [.d (E p.op),.d (.str p.text),.row ⟨p.ae.map jb,3,J,J,I,I⟩]],[mZ s k a]):=by
 rw[aV]at h;obtain⟨j,r,v,g,f,e,c⟩:=CK T nY 280 _ rfl _ _ _ h;cases g;cases f;cases e
 exact c
theorem Vf{s:z}{i k:Nat}{p:dq}{b a:Bool}(h:fP T 279 [mZ s i b]=Z ([.val I [.d (E p.op),.d (.str p.text),.d (.list 3 J (p.ae.map jb))]],[mZ s k a])) :
  G 279 [.str s,E (i:Int),.bool b]=Z (0,jb p++[.str s,E (k:Int),.bool a]):=by
 rw[aV];exact xb (i:=279) (sg:=⟨279,[.box [.d,.d,.d]],_⟩) (v:=([.val I [.d,.d,.d]],[.box [.d,.d,.d]])) rfl rfl h rfl rfl
theorem Vg{s:z}{i k:Nat}{p:dq}{b a:Bool}(h:fP T 279 [mZ s i b]=Z ([.val I [.d (E p.op),.d (.str p.text),.row ⟨p.ae.map jb,3,J,J,I,I⟩]],[mZ s k a])) :
  G 279 [.str s,E (i:Int),.bool b]=Z (1,jb p++[.str s,E (k:Int),.bool a]):=by
 rw[aV];exact xb (i:=279) (sg:=⟨279,[.box [.d,.d,.d]],_⟩) (v:=([.val I [.d,.d,.row 3 J J I I]],[.box [.d,.d,.d]])) rfl rfl h rfl rfl
theorem Ao{s:z}{i k:Nat}{t:z}{op:Int}{b a:Bool}(h:fP T 279 [mZ s i b]=Z ([.val I [.d (E op),.d (.str t),.row ⟨[],3,J,I,I,J⟩]],[mZ s k a])) :
  G 279 [.str s,E (i:Int),.bool b]=Z (2,jb ⟨op,t,[]⟩++[.str s,E (k:Int),.bool a]):=by
 rw[aV];exact xb (i:=279) (sg:=⟨279,[.box [.d,.d,.d]],_⟩) (v:=([.val I [.d,.d,.row 3 J I I J]],[.box [.d,.d,.d]])) rfl rfl h rfl rfl
theorem Us(f:Nat->Bool):Y4 f=Y0 f:=(rfl)
theorem any_eq:Y4 (uz 127)=Q_:=by
 rw[Us,Q_]
 congr 1
 funext x
 simp only[uz]
 congr 1
 apply decide_eq_decide.2
 omega
theorem ahm(f:Nat->Bool)(a b:Nat)(l:M (Int×Int)):(λy:Nat=>rg f a b y ||o9 l y)=λy=>f y ||o9 (((a:Int),(b:Int))::l) y:=VQ f a b l
def eC(s:z)(k:Nat)(b:Bool)(n:Int)(f:Nat->Bool):u (Ex×St):=Z (.exit 3,⟨[(0,.ptr 900 0),(2,.ptr 2 0),(3,.ptr 3 0),(6,.d (.int .i64 n)),(51,.d (.bool J))],[(2,vl),(3,bC f),(900,rC s k b)],[]⟩)
theorem Sj{s:z}(hs:s.size<=30):∀(g i n:Nat) (f:Nat->Bool),i<=s.size->s.size+1 - i<=g->n<=i->(n=0->iB s i 93=J)->
  ∃(k:Nat) (b:Bool) (r:Nat->Bool) (B:Int),ev T ya (.loop iO) (Fq s i J n f)=eC s k b B r/\i<=k/\k<=s.size/\(match iY s g i with
   |some q=>b=J/\k=q.2/\r=λy=>f y ||o9 q.1 y
   |none=>b=I):=by
 have w:s.size<=mg:=by simp only[mg];omega
 intro g
 induction g with
 |zero=>intro i n f h1 h2;omega
 |succ g ih=>
  intro i n f hi hg hn h0;cases v:iB s i 93 with
  |true=>
   have X:=nf v;have e:=R1 (f:=f) (n:=n) (λh=>by rw[h0 h]at v;cases v) (vd (nk (b:=J) w v));refine⟨i+1,J,f,n,e,by omega,by omega,?_⟩;have:iY s (g+1) i=Z ([],i+1):=by simp only[iY,v,if_true]
   rw[this];exact⟨rfl,rfl,by funext y;simp[o9]⟩
  |false=>
   have D:n=0\/fP T 275 [mZ s i J,bt 93]=Z ([ys J],[mZ s i J]):=.inr (vd (nR v));have l:n<=mgK:=by simp only[mgK];omega
   have o:∀(k a c:Nat),i<=k->k<=s.size->qV s i=O->ev T ya iO (Fq s i J n f)=Z (.norm,Fq s k I (n+1) (rg f a c))->
     ∃(k:Nat) (b:Bool) (r:Nat->Bool) (B:Int),ev T ya (.loop iO) (Fq s i J n f)=eC s k b B r/\i<=k/\k<=s.size/\(match iY s (g+1) i with
      |some q=>b=J/\k=q.2/\r=λy=>f y ||o9 q.1 y
      |none=>b=I):=by
    intro k a c W R m d;have hx:=GY (s:=s) (i:=(k:Int)) (n:=n+1) (f:=rg f a c);refine⟨k,I,rg f a c,((n+1:Nat):Int),?_,W,R,?_⟩
    ·rw[jh,d];exact hx
    ·have:iY s (g+1) i=O:=by simp only[iY,v,aC,if_false,m]
     rw[this]
   have Ir:∀(k a c:Nat) (N:Int×Int),i < k->k<=s.size->qV s i=Z (N,k)->N=((a:Int),(c:Int))->ev T ya iO (Fq s i J n f)=Z (.norm,Fq s k J (n+1) (rg f a c))->
     ∃(k:Nat) (b:Bool) (r:Nat->Bool) (B:Int),ev T ya (.loop iO) (Fq s i J n f)=eC s k b B r/\i<=k/\k<=s.size/\(match iY s (g+1) i with
      |some q=>b=J/\k=q.2/\r=λy=>f y ||o9 q.1 y
      |none=>b=I):=by
    intro k a c N W R m sC d;obtain⟨k',b',r,B,e1,e2,e3,Q⟩:=ih k (n+1) (rg f a c) R (by omega) (by omega) (λh=>by omega);refine⟨k',b',r,B,?_,by omega,e3,?_⟩
    ·rw[jh,d];exact e1
    ·have:iY s (g+1) i=(iY s g k).map λp=>(N::p.1,p.2):=by simp only[iY,v,aC,if_false,m]
     rw[this];cases Y:iY s g k with
     |none=>rw[Y]at Q;exact Q
     |some q=>
      rw[Y]at Q;obtain⟨h5,h6,h7⟩:=Q;refine⟨h5,h6,?_⟩;rw[h7,sC];exact ahm f a c q.1
   cases P:AZ s i with
   |false=>
    have m:qV s i=O:=by
     have A:(Z' (i < s.size) && M3 (cr s i))=J:=P;simp only[qV,A,aC,if_false]
    have x:=Jc (Ey (b:=J) P);cases j:iB s i 126 with
    |false=>
     have d:=Dr (a:=0) (z0:=0) (f:=f) (i3:=0) (b3:=J) l (by decide) (by decide) D x (vd (nR (b:=I) j)) (λh=>by cases h);exact o i 0 0 (au _) hi m (by simpa using d)
    |true=>
     have X:=nf j;cases t:AZ s (i+1) with
     |false=>
      have d:=Dr (a:=0) (z0:=0) (f:=f) l (by decide) (by decide) D x (vd (nk (b:=I) w j)) (λ_=>Jc (Ey (b:=I) t));exact o (i+1) 0 0 (by omega) (by omega) m (by simpa using d)
     |true=>
      obtain⟨c,S,F⟩:=yh s (i+1);have K:=Jc (Jr (b:=I) w t);rw[F]at K;have V:i+1 < s.size:=by simp only[AZ,af,decide_eq_true_eq]at t;exact t.1
      have d:=Dr (a:=0) (z0:=c) (f:=f) l (by decide) S D x (vd (nk (b:=I) w j)) (λ_=>K);exact o (i+1+1) 0 c (by omega) (by omega) m (by simpa using d)
   |true=>
    obtain⟨a,U,L⟩:=yh s i;have x:=Jc (Jr (b:=J) w P);rw[L]at x;have A:(Z' (i < s.size) && M3 (cr s i))=I:=P;have X:i < s.size:=by simp only[af,decide_eq_true_eq]at A;exact A.1
    cases j:iB s (i+1) 126 with
    |false=>
     have d:=Dr (a:=a) (z0:=0) (f:=f) (i3:=0) (b3:=J) l U (by decide) D x (vd (nR (b:=J) j)) (λh=>by cases h);exact Ir (i+1) a a (cr s i,cr s i) (by omega) (by omega) (by simp only[qV,A,j,if_true,aC,if_false]) (by rw[L]) (by simpa using d)
    |true=>
     have V:=nf j;cases t:AZ s (i+1+1) with
     |false=>
      have m:qV s i=O:=by
       have G:(Z' (i+2 < s.size) && M3 (cr s (i+2)))=J:=t;simp only[qV,A,j,if_true,<- gR,G,cI,aC,if_false]
      have d:=Dr (a:=a) (z0:=0) (f:=f) l U (by decide) D x (vd (nk (b:=J) w j)) (λ_=>Jc (Ey (b:=J) t));exact o (i+1+1) a 0 (by omega) (by omega) m (by simpa using d)
     |true=>
      obtain⟨c,S,F⟩:=yh s (i+1+1);have K:=Jc (Jr (b:=J) w t);rw[F]at K;have G:(Z' (i+2 < s.size) && M3 (cr s (i+2)))=I:=t;have anK:i+1+1 < s.size:=by simp only[af,decide_eq_true_eq]at G;exact G.1
      have d:=Dr (a:=a) (z0:=c) (f:=f) l U S D x (vd (nk (b:=J) w j)) (λ_=>K);by_cases H:c < a
      ·have C:¬cr s i<=cr s (i+2):=by rw[L,F];omega
       have m:qV s i=O:=by simp only[qV,A,j,if_true,<- gR,G,cJ,C,decide_false,aC,if_false]
       exact o (i+1+1+1) a c (by omega) (by omega) m (by simpa [H] using d)
      ·have C:cr s i<=cr s (i+2):=by rw[L,F];omega
       exact Ir (i+1+1+1) a c (cr s i,cr s (i+2)) (by omega) (by omega) (by simp only[qV,A,j,if_true,<- gR,G,cJ,C,decide_true]) (by rw[L,F]) (by simpa [H] using d)
end
section
def ixB(t:z)(c:Int):Int:=Lib.indexByte t.data.toList c.toNat.toUInt8
theorem ajs(t:z)(c:Int):G 9002 [.str t,.int .u8 c]=Z (0,[E (ixB t c)]):=
 xb (i:=9002) (sg:=⟨9002,[.val J [.d],.val J [.d]],[([.val J [.d]],[])]⟩) (v:=([.val J [.d]],[])) (j:=0) (r:=([.val J [.d (E (ixB t c))]],[])) (ws:=[.str t,.int .u8 c]) rfl rfl ((Wm T rfl [.val J [.d (.str t)],.val J [.d (.int .u8 c)]]).trans rfl) rfl rfl
theorem V2:∀(l:M UInt8) (c:UInt8),-1<=Lib.indexByte l c
 |[],c=>by simp[Lib.indexByte]
 |b::l,c=>by
  have a:=V2 l c;simp only[Lib.indexByte];split
  ·omega
  ·split<;>omega
theorem abT:∀(l:M UInt8) (c:UInt8),Z' (0<=Lib.indexByte l c)=l.any λx=>x ==c
 |[],c=>by simp[Lib.indexByte]
 |b::l,c=>by
  have e:=abT l c;have a:Lib.indexByte (b::l) c=if (b ==c)=I then 0 else if (Lib.indexByte l c == -1)=I then -1 else Lib.indexByte l c+1:=rfl
  rw[lH,<- e];have g:=V2 l c;by_cases h:(b ==c)=I
  ·rw[h,ir,decide_eq_true_eq,a,if_pos h];exact yb 0
  ·rw[eg.2 h,fh]
   apply decide_eq_decide.2
   rw[a,if_neg h];split
   ·rename_i d;rw[beq_iff_eq]at d;omega
   ·rename_i d;have f:¬Lib.indexByte l c=-1:=by simpa using d
    omega
theorem ZT(t:z){s:z}{i:Nat}:Z' (0<=ixB t (cr s i))=hasB t (cr s i):=by
 rw[ixB,abT,dL,kN,hasB,kN];have f:∀k,cr t k=(((t.data.toList)[k]?.getD 0).toNat:Int):=λk=>by
  unfold cr
  congr 2
  simp only[Array.getElem?_toList];rfl
 have j:(cr s i).toNat.toUInt8=s[i]?.getD 0:=by unfold cr;simp
 have g:cr s i=((s[i]?.getD 0).toNat:Int):=rfl;rw[j]
 constructor
 ·rintro⟨x,h,a⟩
  obtain⟨k,c,d⟩:=zH h;refine⟨k,?_,?_⟩
  ·rw[List.mem_range];simpa using c
  ·rw[decide_eq_true_eq,f,g,fD c,d];rw[beq_iff_eq]at a;rw[a];rfl
 ·rintro⟨k,c,b⟩
  rw[List.mem_range]at c;have e:k < t.data.toList.length:=by simpa using c
  rw[decide_eq_true_eq,f,g,fD e]at b;refine⟨_,List.getElem_mem e,?_⟩;rw[beq_iff_eq];simp only[dB]at b;exact UInt8.toNat_inj.1 (by omega)
theorem zS:∀(l:M Bool),lk (l.map Bn)=Z l
 |[]=>rfl
 |b::l=>by
  have:=zS l;simp only[aW,Bn,lk,this,aH]
theorem MX{a b:M Bool}(h:b.length=a.length)(c:0 < b.length):aK .jnl [bu a,bu b]=Z (bu (dM a b)):=by
 simp only[aK,zS,aj,h];rw[if_pos ⟨trivial,trivial,trivial,trivial,λd=>by rw[List.map_eq_nil_iff]at d;rw[d]at c;exact absurd c (by simp)⟩];rfl
theorem MW(a b:M Bool):aK .jnb [bu a,bu b]=Z (.bool (nd a b)):=by
 simp only[aK,zS]
theorem Sl{s t:z}{a:M Bool}{op ks:D}(w:s.size<=mg)(y:a.length=s.size+1) :
  bK (lB G AL) (0,[.str s,bu a,E 0,op,.str t,ks,bu (bc (s.size+1) J)])=Z (0,[.str s,bu a,E s.size,.bool J,op,.str t,ks,bu (Mx t s a)]):=by
 have h:=HY t s a;have g:=Ld (b:=lB G AL) (λi=>(0,[.str s,bu a,E (i:Int),op,.str t,ks,bu (lu (Mx t s a) (i+1))])) s.size (fin:=(0,[.str s,bu a,E s.size,.bool J,op,.str t,ks,bu (lu (Mx t s a) (s.size+1))])) (by
  intro i d;have f:IntKind.i64.wrap ((i:Int)+1)=((i+1:Nat):Int):=FF (by omega);have j:nth a i=Z (a[i]'(by omega)):=dV (by omega);have p:=Qd (t:=t) d j;have n:=OV j;have o:i+1 < (lu (Mx t s a) (i+1)).length:=by rw[yA _ _ (by omega)];omega
  have m:=sJ o;have l:=λc=>CV (c:=c) o;have e:=Ak p;have k:=c9 s i d;have v:=ajs t (cr s i);have r:=ZT t (s:=s) (i:=i);generalize (a[i]'(by omega))=x at *;cases x with
  |false=>
   rw[cI]at e;simp only[go_sem,bn,AL,d,f,n,m,l,e,k]
  |true=>
   rw[cJ]at e;simp only[go_sem,bn,AL,d,f,n,m,l,e,k,v,r]) (by
  simp only[go_sem,bn,AL,aG])
 have q:lu (Mx t s a) (0+1)=bc (s.size+1) J:=by
  rw[lu,h];simp[Mx,ja]
 rw[q,n0]at g;rw[g]
 congr 9
 rw[<- h,Nc]
section
variable {s:z} {k:dq} {f:M Bool->M Bool} (hf:∀x:M Bool,x.length=s.size+1->(f x).length=s.size+1)
 (ih:∀x:M Bool,x.length=s.size+1->G 308 (jb k++[.str s,bu x])=Z (0,[bu (f x)]))
include hf ih
theorem Sn{t:z}:∀(m:Nat) (x:M Bool) (h:Nat) (c:D),h < 2->outs x < m->x.length=s.size+1->
  bK (lB G uZ) (h,[.str s,c,E 4,.str t,ct [k],bu x])=Z (0,[.str s,.bool J,E 4,.str t,ct [k],bu (BM f m x)]):=by
 intro m
 induction m with
 |zero=>intro x h c o r;omega
 |succ m p=>
  intro x h c o r j;have g:=ih x j;rw[aV]at g;simp only[aq,ay]at g;have n:=hf x j;have i:=MX (a:=x) (b:=f x) (by rw[n,j]) (by omega);have e:=MW x (f x);have q:=ko x (f x);have l:=GL x (f x);simp only[BM];by_cases d:dM x (f x)=x
  ·rw[if_pos d];rw[decide_eq_true d,eP]at l;rw[l]at e;rw[d]at i;refine aF ?_
   match h,o with
   |0,_=>simp only[go_sem,bn,uZ,wQ,jj,aV k,g,i,e]
   |1,_=>simp only[go_sem,bn,uZ,wQ,jj,aV k,g,i,e]
  ·rw[if_neg d];rw[decide_eq_false d,dZ]at l;rw[l]at e;refine (bB (s':=(1,[.str s,.bool I,E 4,.str t,ct [k],bu (dM x (f x))])) ?_).trans (p _ 1 (.bool I) (by decide) (by have:=(xv x (f x)).2 d;omega) (by rw[q];exact j))
   match h,o with
   |0,_=>simp only[go_sem,bn,uZ,wQ,jj,aV k,g,i,e]
   |1,_=>simp only[go_sem,bn,uZ,wQ,jj,aV k,g,i,e]
theorem Sm{t:ByteArray}{x:M Bool}{z:D}(c:x.length=s.size+1) :
  bK (lB G uZ) (0,[.str s,z,E 5,.str t,ct [k],bu x])=Z (0,[.str s,.bool J,E 5,.str t,ct [k],bu (dM x (f x))]):=by
 have e:=ih x c;rw[aV]at e;simp only[aq,ay]at e;have d:=hf x c;have i:=MX (a:=x) (b:=f x) (by rw[d,c]) (by omega);have g:=MW x (f x);refine aF ?_;cases h:nd x (f x)<;>rw[h]at g<;>simp only[go_sem,bn,uZ,wQ,jj,aV k,e,i,g]
end
def EJ(h:u D)(s:z)(l:M dq)(i:Nat)(x:M Bool):Nat×M D:=match h with
 |none=>(0,[.str s,ct l,.int .i64 l.length,.int .i64 (i:Int),bu x])
 |some a=>(1,[.str s,ct l,.int .i64 l.length,.int .i64 (i:Int),a,bu x])
def K8(h:u D)(s:z)(l:M dq)(x:M Bool):Nat×M D:=match h with
 |none=>(0,[.str s,ct l,.int .i64 l.length,.int .i64 l.length,.bool J,bu x])
 |some a=>(1,[.str s,ct l,.int .i64 l.length,.int .i64 l.length,.bool J,a,bu x])
theorem Ha{s:z}{l:M dq}{f:dq->M Bool->M Bool}(p:l.length<=mg)(q:∀(k:dq) (x:M Bool),x.length=s.size+1->(f k x).length=s.size+1)
  (n:∀k∈l,∀x:M Bool,x.length=s.size+1->G 308 (jb k++[.str s,bu x])=Z (0,[bu (f k x)])):∀(m i:Nat) (x:M Bool) (h:u D),i+m=l.length->x.length=s.size+1->
  ∃j,bK (lB G AM) (EJ h s l i x)=Z (K8 j s l ((l.drop i).foldl (λo k=>f k o) x))
 |0,i,x,h,t,d=>by
  obtain rfl:i=l.length:=by omega
  refine⟨h,aF ?_⟩;rw[fC,xY];cases h with
  |none=>simp only[go_sem,bn,AM,EJ,K8,aG]
  |some a=>simp only[go_sem,bn,AM,EJ,K8,aG]
 |m+1,i,x,h,t,d=>by
  have e:nth l i=Z (l[i]'(by omega)):=dV (by omega);have g:i < l.length:=by omega
  have b:=wj g p;have c:=n _ (bz e) x d;have r:=KN e;obtain⟨j,v⟩:=Ha p q n m (i+1) (f (l[i]'(by omega)) x) (Z (h.getD (bu x))) (by omega) (q _ x d);refine⟨j,(bB (s':=EJ (Z (h.getD (bu x))) s l (i+1) (f (l[i]'(by omega)) x)) ?_).trans (v.trans ?_)⟩
  ·generalize (l[i]'(by omega))=k at *;rw[aV]at c;simp only[aq,ay]at c;cases h with
   |none=>
    simp only[go_sem,bn,AM,EJ,g,b,r,jj];simp only[go_sem,aV k,c,b,dz,dB]
   |some a=>
    simp only[go_sem,bn,AM,EJ,g,b,r,jj];simp only[go_sem,aV k,c,b,dz,dB]
  ·rw[ig l i _ e,wm]
theorem aeP{s:ByteArray}(P:s.size<=mg)(n:Nat):∀(p:dq) (a:M Bool),av p < n->xL 64 p=I->a.length=s.size+1->G 308 (jb p++[.str s,bu a])=Z (0,[bu (jc s n p a)]):=by
 induction n with
 |zero=>intro p a h;omega
 |succ n V=>
  intro p a hz S A;have c:=rM (s:=s) n;have C:∀k∈p.ae,∀x:M Bool,x.length=s.size+1->G 308 (jb k++[.str s,bu x])=Z (0,[bu (jc s n k x)]):=λk C x H=>V k x (by have:=dq.DB C;omega) (Cz S C) H;have d:=FF P;have e:=yl (n:=s.size+1) (by simp only[mg]at P;omega);have Ct:=CA S;have j:=Uo (l:=bc (s.size+1) J) (m:=a) (by simpa using A);refine dd FN (by rw[aV];rfl) ?_;simp only[jc];unfold KY;by_cases q:p.op=1
  ·have r:=Sl (s:=s) (t:=p.text) (a:=a) (op:=E 1) (ks:=ct p.ae) P A;rw[if_pos q];simp only[go_sem,d,e,j,FN,aV p,q,r]
  rw[if_neg q];by_cases v:p.op=2
  ·rw[if_pos v];obtain⟨W,r⟩:=Ha (s:=s) (l:=p.ae) (f:=jc s n) (by simp only[mg];omega) c C p.ae.length 0 a O (by omega) A;rw[cK]at r;simp only[EJ,n0]at r;cases W with
   |none=>
    simp only[K8]at r;simp only[go_sem,d,e,j,FN,aV p,q,v,r]
   |some z=>
    simp only[K8]at r;simp only[go_sem,d,e,j,FN,aV p,q,v,r]
  rw[if_neg v];by_cases y:p.op=3
  ·rw[if_pos y];have r:=fM (b:=lB G I1) p.ae (λi (x:M Bool)=>(0,[.str s,bu a,ct p.ae,E p.ae.length,E (i:Int),bu x])) (λi=>(p.ae.take i).foldl (λo k=>dM o (jc s n k a)) (bc (s.size+1) J)) (0,[.str s,bu a,ct p.ae,E p.ae.length,E p.ae.length,.bool J,bu (p.ae.foldl (λo k=>dM o (jc s n k a)) (bc (s.size+1) J))]) (by
    intro i k L;have T:=bF L;have K:=wj (i:=i) (n:=p.ae.length) T (by simp only[mg];omega);have R:=C k (bz L) a A;have U:=An (s:=s) (g:=λk=>jc s n k a) (p.ae.take i) (bc (s.size+1) J) (by simp);have Y:=MX (a:=(p.ae.take i).foldl (λo k=>dM o (jc s n k a)) (bc (s.size+1) J)) (b:=jc s n k a) (by rw[c k a A,U]) (by rw[c k a A];omega);have X:=MW ((p.ae.take i).foldl (λo k=>dM o (jc s n k a)) (bc (s.size+1) J)) (jc s n k a);rw[aV]at R;simp only[aq,ay]at R;rw[xo _ _ _ _ _ L];simp only[go_sem,d,e,j,bn,I1,T,K,KN L,jj];simp only[go_sem,d,e,j,aV k,R,Y,X,K]) (by
    rw[bN];simp only[go_sem,d,e,j,bn,I1,aG]) p.ae.length 0 (by omega)
   rw[n0,dw,xY]at r;simp only[go_sem,d,e,j,FN,aV p,q,v,y,r]
  rw[if_neg y];by_cases B:p.op=4
  ·rw[if_pos B];have w:¬(4:Int)=5:=by decide
   by_cases D:p.ae.length=1
   ·obtain⟨k,F⟩:=db.1 D;have N:=Sn (t:=p.text) (c k) (λx H=>C k (by rw[F];simp) x H) (s.size+2) a 0 (.bool J) (by decide) (by have:=Jl a;omega) A;rw[F,Jj];simp only[go_sem,d,e,j,FN,aV p,q,v,y,B,w,F,N]
   ·rw[Jk D];have Q:=aai D;simp only[go_sem,d,e,j,FN,aV p,q,v,y,B,w,Q]
  rw[if_neg B];by_cases w:p.op=5
  ·rw[if_pos w];by_cases D:p.ae.length=1
   ·obtain⟨k,F⟩:=db.1 D;have N:=Sm (t:=p.text) (z:=.bool J) (c k) (λx H=>C k (by rw[F];simp) x H) A;rw[F,Jj];simp only[go_sem,d,e,j,FN,aV p,q,v,y,B,w,F,N]
   ·rw[Jk D];have Q:=aai D;simp only[go_sem,d,e,j,FN,aV p,q,v,y,B,w,Q]
  rw[if_neg w];simp only[go_sem,d,e,j,FN,aV p,q,v,y,B,w]
theorem amF{s:z}{p:dq}(d:s.size<=mg)(m:xL 64 p=I):G 309 (jb p++[.str s])=Z (0,[.bool (NJ p s)]):=by
 have k:=FF d;have o:=yl (n:=s.size+1) (by simp only[mg]at d;omega);have e:=aeP d (av p+1) p (I::bc s.size J) (aY _) m (by simp);have g:=rM (s:=s) (av p+1) p (I::bc s.size J) (by simp);rw[aV]at e;simp only[aq,ay]at e;have j:=sJ (l:=bc (s.size+1) J) (i:=0) (by simp);have f:=CV (l:=bc (s.size+1) J) (i:=0) (c:=I) (by simp);have v:(bc (s.size+1) J).set 0 I=I::bc s.size J:=by rw[ja];rfl
 rw[v]at f;rw[n0]at j f;have t:=sJ (l:=jc s (av p+1) p (I::bc s.size J)) (i:=s.size) (by rw[g];omega);obtain⟨b,h⟩:∃b,nth (jc s (av p+1) p (I::bc s.size J)) s.size=Z b:=⟨_,dV (by rw[g];omega)⟩
 have r:=CU h;refine dd ajP (by rw[aV];rfl) ?_;have q:NJ p s=b:=by rw[NJ,h];rfl
 rw[q];generalize jc s (av p+1) p (I::bc s.size J)=a at *;simp only[go_sem,ajP,aV p,k,o,j,f,e,t,r]
end
section
section
variable {s:z} {alt:Nat->PR}
theorem amA(wv:s.size<=30){i:Nat}(D:i < s.size)(hA:∀j,i < j->j<=s.size->CM 280 s j 0 2 J (alt j)):CM 279 s i 1 3 J (wW alt s i):=by
 have C:s.size<=mg:=by simp only[mg];omega
 unfold wW;cases G:iB s i 40 with
 |true=>
  have o:=vd (nk (b:=J) C G);obtain⟨j,p,k,b,W,P,V,p2,p3,A⟩:=hA (i+1) (by omega) (by omega);rw[if_pos rfl];cases L:iB s k 41 with
  |true=>
   have g:=vd (nk (b:=b) C L);have hk:=nf L;have F:PA s i 1 (match alt (i+1) with
     |some (p,j)=>if iB s j 41=I then Z (p,j+1) else O
     |none=>O) p (k+1) b:=by
    refine⟨V,by omega,by omega,?_⟩;cases e:alt (i+1) with
    |none=>rw[e]at A;exact A
    |some q=>
     rw[e]at A;obtain⟨Q,rfl,p5⟩:=A;simp only[L,if_true];exact⟨Q,trivial,by omega⟩
   match j,W with
   |0,_=>
    have:=IB (.inl ⟨_,rfl⟩) o (Wn P) g;rw[eP,ew]at this;exact⟨0,p,k+1,b,by decide,Vf this,F⟩
   |1,_=>
    have:=IB (.inr ⟨_,rfl⟩) o (Wo P) g;rw[eP,ew]at this;exact⟨1,p,k+1,b,by decide,Vg this,F⟩
  |false=>
   have g:=vd (nR (b:=b) L);have F:PA s i 1 (match alt (i+1) with
     |some (p,j)=>if iB s j 41=I then Z (p,j+1) else O
     |none=>O) p k I:=by
    refine⟨V,by omega,p3,?_⟩;cases e:alt (i+1) with
    |none=>rfl
    |some q=>
     rw[e]at A;obtain⟨Q,rfl,p5⟩:=A;simp only[L,aC,if_false]
   match j,W with
   |0,_=>
    have:=IB (.inl ⟨_,rfl⟩) o (Wn P) g;rw[dZ,ft]at this;exact⟨0,p,k,I,by decide,Vf this,F⟩
   |1,_=>
    have:=IB (.inr ⟨_,rfl⟩) o (Wo P) g;rw[dZ,ft]at this;exact⟨1,p,k,I,by decide,Vg this,F⟩
 |false=>
  have o:=vd (nR (b:=J) G);rw[if_neg cS];cases m:iB s i 46 with
  |true=>
   have g:=vd (nk (b:=J) C m);have t:iB s i 91=J:=by
    rw[eg];intro h;have a1:=(mw.1 h).2;have a2:=(mw.1 m).2;omega
   have:=adE o g;rw[any_eq]at this;rw[t,if_neg cS,if_pos rfl];exact⟨2,⟨1,Q_,[]⟩,i+1,J,by decide,Ao this,kY _ _ (zV _),by omega,by omega,rfl,rfl,by omega⟩
  |false=>
   have g:=vd (nR (b:=J) m);cases t:iB s i 91 with
   |true=>
    have H:=vd (nk (b:=J) C t);rw[if_pos rfl];cases N:iB s (i+1) 93 with
    |false=>
     obtain⟨k,b,Y,n',e1,e2,e3,R⟩:=Sj wv (s.size+1) (i+1) 0 (λ_=>J) (by omega) (by omega) (by omega) (λ_=>N);have:=V6 o g H e1;refine⟨2,⟨1,Y4 Y,[]⟩,k,b,by decide,Ao this,kY _ _ (zV _),by omega,e3,?_⟩;unfold LW;cases e:iY s (s.size+1) (i+1) with
     |none=>rw[e]at R;exact R
     |some q=>
      obtain⟨l,k0⟩:=q;rw[e]at R;obtain⟨Q,X,h7⟩:=R;dsimp only at X;subst Q X;cases l with
      |nil=>
       exfalso
       simp only[iY,N,aC,if_false]at e
       split at e
       ·obtain⟨p,_,h⟩:=ak.1 e;simp at h
       ·cases e
      |cons r l=>
       have hf:Y4 Y=ae7 (r::l):=by
        rw[Us,ae7,h7]
        congr 1
       rw[hf];exact⟨rfl,rfl,by omega⟩
    |true=>
     obtain⟨hl3,U⟩:=mw.1 N;have v:AZ s (i+1)=J:=by
      simp only[AZ,U];rw[Bool.and_eq_false_iff];exact .inr (by decide)
     have ht:iB s (i+1) 126=J:=by
      rw[eg];intro h;have a1:=(mw.1 h).2;omega
     have he:=Dr (a:=0) (z0:=0) (f:=λ_=>J) (i3:=0) (b3:=J) (n:=0) (by decide) (by decide) (by decide) (.inl rfl) (Jc (Ey (b:=J) v)) (vd (nR (b:=I) ht)) (λh=>by cases h);have hx:=GY (s:=s) (i:=((i+1:Nat):Int)) (n:=1) (f:=rg (λ_=>J) 0 0);have hl:ev T ya (.loop iO) (Fq s ((i+1:Nat):Int) J 0 λ_=>J)=Z (.exit 3,⟨[(0,.ptr 900 0),(2,.ptr 2 0),(3,.ptr 3 0),(6,.d (E ((1:Nat):Int))),(51,.d (.bool J))],[(2,vl),(3,bC (rg (λ_=>J) 0 0)),(900,rC s ((i+1:Nat):Int) I)],[]⟩):=by
      rw[jh,he];exact hx
     have:=V6 o g H hl;refine⟨2,⟨1,Y4 _,[]⟩,i+1,I,by decide,Ao this,kY _ _ (zV _),by omega,by omega,?_⟩;have e:iY s (s.size+1) (i+1)=Z ([],i+1+1):=by simp only[iY,N,if_true]
     have:LW s (i+1)=O:=by rw[LW,e]
     rw[this]
   |false=>
    have H:=vd (nR (b:=J) t);rw[if_neg cS,if_neg cS];cases v:AZ s i with
    |false=>
     have:=V7 o g H (Jc (Ey (b:=J) v));have S:(Z' (i < s.size) && pCh (cr s i))=J:=by
      simp only[AZ,D,decide_true,cJ,M3]at v;simp only[D,decide_true,cJ,pCh];generalize fG 97 122 (cr s i)=x at *;generalize fG 48 57 (cr s i)=y at *;generalize Z' (cr s i=45)=c at *;cases x<;>cases y<;>cases c<;>simp_all
     rw[S,if_neg cS];exact⟨2,⟨1,_,[]⟩,i,I,by decide,Ao this,kY _ _ (by decide),by omega,by omega,rfl⟩
    |true=>
     have:=V7 o g H (Jc (Jr (b:=J) C v));have K:¬cr s i=46:=λh=>by rw[mw.2 ⟨D,h⟩]at m;cases m
     have e1:([dX (cr s i).toNat].toArray:Array UInt8)=(Ep (cr s i)).data:=rfl;have B:(Ep (cr s i)).size<=256:=by rw[Ep,qn];simp
     have S:(Z' (i < s.size) && pCh (cr s i))=!Z' (cr s i=95):=by
      simp only[AZ,D,decide_true,cJ,M3]at v;simp only[D,decide_true,cJ,pCh];by_cases w:cr s i=95
      ·rw[w];decide
      ·simp only[w,K,decide_false,fh,ew]at v;rw[v];simp[w]
     rw[S];by_cases w:cr s i=95
     ·rw[decide_eq_true w,ir,ft]at this;rw[decide_eq_true w,eP,if_neg cS];exact⟨2,⟨1,Ep (cr s i),[]⟩,i+1,I,by decide,Ao this,kY _ _ B,by omega,by omega,rfl⟩
     ·rw[decide_eq_false w,decide_eq_false K,ew,ew]at this;rw[decide_eq_false w,dZ,if_pos rfl];exact⟨2,⟨1,Ep (cr s i),[]⟩,i+1,J,by decide,Ao this,kY _ _ B,by omega,by omega,rfl,rfl,by omega⟩
theorem amC(A:s.size<=30){i:Nat}(t:CM 279 s i 1 3 J (wW alt s i)):CM 282 s i 1 4 J (sb alt s i):=by
 have r:s.size<=mg:=by simp only[mg];omega
 obtain⟨j,p,k,b,l,d,v,C,x,h⟩:=t;simp only[aV,aq,ay]at d;have c:=amB v;rw[aV]at c;have g1:=Qn (n:=64) (by decide) (s:=s) k v;have g2:=Qm s p k;have a:PA s i 1 (sb alt s i) (Eu s p k).1 (Eu s p k).2 b:=by
  refine⟨g1,by omega,g2.2 x,?_⟩;unfold sb;cases w:wW alt s i with
  |none=>rw[w]at h;exact h
  |some q=>
   rw[w]at h;obtain⟨y,rfl,B⟩:=h;exact⟨y,rfl,by omega⟩
 unfold Eu at a;cases c1:iB s k 42 with
 |true=>
  have e:=nk (b:=b) r c1;rw[c1,if_pos rfl]at a
  match j,l with
  |0,_=>exact⟨0,_,_,b,by decide,dd t282 rfl (by simp only[go_sem,d,cp,tw,jy,pr,xI,P1,P2,c,cu,eT,t282,e,aV]),a⟩
  |1,_=>exact⟨0,_,_,b,by decide,dd t282 rfl (by simp only[go_sem,d,cp,tw,jy,pr,xI,P1,P2,c,cu,eT,t282,e,aV]),a⟩
  |2,_=>exact⟨3,_,_,b,by decide,dd t282 rfl (by simp only[go_sem,d,cp,tw,jy,pr,xI,P1,P2,c,cu,eT,t282,e,aV]),a⟩
 |false=>
  have e:=nR (b:=b) c1;rw[c1,if_neg cS]at a;cases o:iB s k 43 with
  |true=>
   have f:=nk (b:=b) r o;rw[o,if_pos rfl]at a
   match j,l with
   |0,_=>exact⟨0,_,_,b,by decide,dd t282 rfl (by simp only[go_sem,d,cp,tw,jy,pr,xI,P1,P2,c,cu,eT,t282,e,f,aV]),a⟩
   |1,_=>exact⟨0,_,_,b,by decide,dd t282 rfl (by simp only[go_sem,d,cp,tw,jy,pr,xI,P1,P2,c,cu,eT,t282,e,f,aV]),a⟩
   |2,_=>exact⟨0,_,_,b,by decide,dd t282 rfl (by simp only[go_sem,d,cp,tw,jy,pr,xI,P1,P2,c,cu,eT,t282,e,f,aV]),a⟩
  |false=>
   have f:=nR (b:=b) o;rw[o,if_neg cS]at a;cases m:iB s k 63 with
   |true=>
    have g:=nk (b:=b) r m;rw[m,if_pos rfl]at a
    match j,l with
    |0,_=>exact⟨0,_,_,b,by decide,dd t282 rfl (by simp only[go_sem,d,cp,tw,jy,pr,xI,P1,P2,c,cu,eT,t282,e,f,g,aV]),a⟩
    |1,_=>exact⟨0,_,_,b,by decide,dd t282 rfl (by simp only[go_sem,d,cp,tw,jy,pr,xI,P1,P2,c,cu,eT,t282,e,f,g,aV]),a⟩
    |2,_=>exact⟨3,_,_,b,by decide,dd t282 rfl (by simp only[go_sem,d,cp,tw,jy,pr,xI,P1,P2,c,cu,eT,t282,e,f,g,aV]),a⟩
   |false=>
    have g:=nR (b:=b) m;rw[m,if_neg cS]at a
    match j,l with
    |0,_=>exact⟨1,_,_,b,by decide,dd t282 rfl (by simp only[go_sem,d,cp,tw,jy,pr,xI,P1,P2,c,cu,eT,t282,e,f,g,aV]),a⟩
    |1,_=>exact⟨2,_,_,b,by decide,dd t282 rfl (by simp only[go_sem,d,cp,tw,jy,pr,xI,P1,P2,c,cu,eT,t282,e,f,g,aV]),a⟩
    |2,_=>exact⟨3,_,_,b,by decide,dd t282 rfl (by simp only[go_sem,d,cp,tw,jy,pr,xI,P1,P2,c,cu,eT,t282,e,f,g,aV]),a⟩
end
end
section
section
variable {s:z} {alt:Nat->PR}
theorem Sk(r:s.size<=30){i:Nat}{l:M dq}(v:l.length<=100)(h:vk s i=I)(g:CM 282 s i 1 4 J (sb alt s i)) :
  ∃(p:dq) (k:Nat) (b:Bool),lB G nP (0,[E 0,.str ⟨#[]⟩,.str s,E (i:Int),.bool J,ct l])=Z (.go (0,[E 0,.str ⟨#[]⟩,.str s,E (k:Int),.bool b,ct (l++[p])]))/\PA s i 1 (sb alt s i) p k b:=by
 have q:l.length<=mg:=by simp only[mg];omega
 simp only[vk,af,decide_eq_true_eq,bY,decide_eq_false_iff_not]at h;obtain⟨a,e,d⟩:=h;have f:=c9 s i a;have fa:=λop t m=>HR q op t m;obtain⟨j,p,k,b,n,c,o⟩:=g;simp only[aV,aq,ay]at c;refine⟨p,k,b,?_,o⟩
 match j,n with
 |0,_=>simp only[go_sem,a,e,d,f,c,cp,tw,jy,pr,fa,cu,bn,nP]
 |1,_=>simp only[go_sem,a,e,d,f,c,cp,tw,jy,pr,fa,cu,bn,nP]
 |2,_=>simp only[go_sem,a,e,d,f,c,cp,tw,jy,pr,fa,cu,bn,nP]
 |3,_=>simp only[go_sem,a,e,d,f,c,cp,tw,jy,pr,fa,cu,bn,nP]
theorem Z5(m:s.size<=30){i0:Nat}(F:∀j,i0 < j->j<=s.size->CM 280 s j 0 2 J (alt j)):∀(g i:Nat) (l:M dq),i0<=i->i<=s.size->s.size+1 - i<=g->YO l i->
  ∃(h:M dq) (k:Nat) (b:Bool),bK (lB G nP) (0,[E 0,.str ⟨#[]⟩,.str s,E (i:Int),.bool J,ct l])=Z (0,[.bool J,E 0,.str ⟨#[]⟩,.str s,E (k:Int),.bool b,ct h])/\RdL i s l (vj alt s g i) h k b:=by
 have R:s.size<=mg:=by simp only[mg];omega
 intro g
 induction g with
 |zero=>intro i l _ w H;omega
 |succ g D=>
  intro i l T w H c;simp only[vj];cases d:vk s i with
  |false=>
   simp only[aC,if_false];refine⟨l,i,J,aF ?_,⟨by have:=c.1;omega,c.2⟩,au _,w,rfl,by rw[aQ],rfl⟩;by_cases a:i < s.size
   ·have x:=c9 s i a;simp only[vk,a,decide_true,cJ]at d;by_cases t:cr s i=124
    ·simp only[go_sem,bn,nP,a,t,x]
    ·have f:cr s i=41:=by
      by_cases f:cr s i=41
      ·exact f
      ·simp[t,f]at d
     have B:¬(41:Int)=124:=by decide
     simp only[go_sem,bn,nP,a,f,B,x]
   ·simp only[go_sem,bn,nP,a]
  |true=>
   have a:i < s.size:=by simp only[vk,af,decide_eq_true_eq]at d;exact d.1
   simp only[if_true];obtain⟨p,k,b,y,r,A,o,e⟩:=Sk m (l:=l) (by have:=c.1;omega) d (amC m (amA m a λj S P=>F j (by omega) P));cases v:sb alt s i with
   |none=>
    rw[v]at e;subst e;refine⟨l++[p],k,I,(bB y).trans (aF ?_),oV (n:=30) ⟨by have:=c.1;omega,c.2⟩ r (by decide),A,o,rfl⟩;simp only[go_sem,bn,nP]
   |some q=>
    rw[v]at e;obtain⟨rfl,rfl,Q⟩:=e;obtain⟨h,C,N,L,K⟩:=D k (l++[p]) (by omega) o (by omega) (oV c r (by omega));exact⟨h,C,N,(bB y).trans L,ye (by omega) K⟩
theorem ai4(m:s.size<=30){i:Nat}(w:i<=s.size)(o:∀j,i < j->j<=s.size->CM 280 s j 0 2 J (alt j)):CM 283 s i 0 2 J (B9 alt s i):=by
 obtain⟨f,k,b,l,h,y,x,c⟩:=Z5 m o (s.size+1) i [] (au _) w (by omega) ⟨by simp,by simp⟩;have e:aK (.mW 3 J) []=Z (ct []):=tz 3 J;have a:PA s i 0 (B9 alt s i) (su 2 f) k b:=by
  refine⟨vy (by have:=h.1;omega) h.2,y,x,?_⟩;unfold B9;cases g:vj alt s (s.size+1) i with
  |none=>rw[g]at c;exact c
  |some q=>
   rw[g]at c;obtain⟨v,t,r⟩:=c;subst t r;exact⟨v,rfl,by omega⟩
 by_cases d:f.length=1
 ·obtain⟨p,rfl⟩:=db.1 d;have n:su 2 [p]=p:=rfl;rw[n]at a;refine⟨0,p,k,b,by decide,dd t283 rfl ?_,a⟩;simp only[go_sem,t283,cp,e,l,Gw,Gj,aV p]
 ·rw[JK d]at a;refine⟨1,_,k,b,by decide,dd t283 rfl ?_,a⟩;simp only[go_sem,t283,cp,e,l,He,d,aV,eT]
theorem aeO{i:Nat}(c:i<=s.size):CM 283 s i 0 2 I O:=by
 have a:aK (.mW 3 J) []=Z (ct []):=tz 3 J;have b:bK (lB G nP) (0,[E 0,.str ⟨#[]⟩,.str s,E (i:Int),.bool I,ct []])=Z (0,[.bool J,E 0,.str ⟨#[]⟩,.str s,E (i:Int),.bool I,ct []]):=by
  refine aF ?_;simp only[go_sem,bn,nP]
 refine⟨1,⟨2,eT,[]⟩,i,I,by decide,dd t283 rfl ?_,xM Bo (by simp) (by simp),au _,c,rfl⟩;simp only[go_sem,t283,cp,n0,a,b,aV,eT]
theorem Lq(H:s.size<=30):∀(g i:Nat) (l:M dq),i<=s.size->s.size+1 - i<=g->YO l (i+2)->
  ∃(a:M dq) (k:Nat),bK (lB G oK) (0,[E 0,.str ⟨#[]⟩,.str s,E (i:Int),.bool I,ct l])=Z (0,[.bool J,E 0,.str ⟨#[]⟩,.str s,E (k:Int),.bool I,ct a])/\YO a 40/\i<=k/\k<=s.size:=by
 have x:s.size<=mg:=by simp only[mg];omega
 intro g
 induction g with
 |zero=>intro i l m A;omega
 |succ g w=>
  intro i l m A c;cases h:iB s i 124 with
  |false=>
   have d:=nR (b:=I) h;exact⟨l,i,aF (by simp only[go_sem,bn,oK,d]),⟨by have:=c.1;omega,c.2⟩,au _,m⟩
  |true=>
   have d:=nk (b:=I) x h;have L:=nf h;have F:l.length<=mg:=by have:=c.1;simp only[mg];omega
   have fa:=λop t r=>HR F op t r;obtain⟨j,p,k,b,y,f,q,K,o,n⟩:=aeO (s:=s) (i:=i+1) (by omega);simp only[aV,aq,ay]at f;have e:b=I:=n;subst e;have go:lB G oK (0,[E 0,.str ⟨#[]⟩,.str s,E (i:Int),.bool I,ct l])=Z (.go (0,[E 0,.str ⟨#[]⟩,.str s,E (k:Int),.bool I,ct (l++[p])])):=by
    match j,y with
    |0,_=>simp only[go_sem,bn,oK,d,f,jy,pr,fa,cu]
    |1,_=>simp only[go_sem,bn,oK,d,f,jy,pr,fa,cu]
   obtain⟨a,v,D,C,N,B⟩:=w k (l++[p]) o (by omega) (oV c q (by omega));exact⟨a,v,(bB go).trans D,C,by omega,B⟩
theorem Z4(o:s.size<=30){i0:Nat}(K:∀j,i0 < j->j<=s.size->CM 280 s j 0 2 J (alt j)):∀(g i:Nat) (l:M dq),i0<=i->i<=s.size->s.size+1 - i<=g->YO l (i+1)->
  ∃(a:M dq) (k:Nat) (b:Bool),bK (lB G oK) (0,[E 0,.str ⟨#[]⟩,.str s,E (i:Int),.bool J,ct l])=Z (0,[.bool J,E 0,.str ⟨#[]⟩,.str s,E (k:Int),.bool b,ct a])/\RdL i s l (BG alt s g i) a k b:=by
 have H:s.size<=mg:=by simp only[mg];omega
 intro g
 induction g with
 |zero=>intro i l _ A L;omega
 |succ g F=>
  intro i l V A L c;simp only[BG];cases m:iB s i 124 with
  |false=>
   have e:=nR (b:=J) m;simp only[aC,if_false];refine⟨l,i,J,aF ?_,⟨by have:=c.1;omega,c.2⟩,au _,A,rfl,by rw[aQ],rfl⟩;simp only[go_sem,bn,oK,e]
  |true=>
   have e:=nk (b:=J) H m;have U:=nf m;have C:l.length<=mg:=by have:=c.1;simp only[mg];omega
   have W:=λx=>Ud C x;have fa:=λop t D=>HR C op t D;simp only[if_true];obtain⟨j,p,k,b,y,h,v,T,r,d⟩:=ai4 o (i:=i+1) (by omega) λj y R=>K j (by omega) R;simp only[aV,aq,ay]at h;have go:lB G oK (0,[E 0,.str ⟨#[]⟩,.str s,E (i:Int),.bool J,ct l])=Z (.go (0,[E 0,.str ⟨#[]⟩,.str s,E (k:Int),.bool b,ct (l++[p])])):=by
    match j,y with
    |0,_=>simp only[go_sem,bn,oK,e,h,jy,pr,fa,cu]
    |1,_=>simp only[go_sem,bn,oK,e,h,jy,pr,fa,cu]
   cases w:B9 alt s (i+1) with
   |none=>
    rw[w]at d;subst d;obtain⟨a,f,P,n,B,N⟩:=Lq o (s.size+1) k (l++[p]) r (by omega) (oV c v (by omega));exact⟨a,f,I,(bB go).trans P,n,by omega,N,rfl⟩
   |some q=>
    rw[w]at d;obtain⟨rfl,rfl,S⟩:=d;obtain⟨a,f,Q,n,B⟩:=F k (l++[p]) (by omega) r (by omega) (oV c v (by omega));exact⟨a,f,Q,(bB go).trans n,ye (by omega) B⟩
theorem aeM(r:s.size<=30){i:Nat}(R:i<=s.size)(B:∀j,i < j->j<=s.size->CM 280 s j 0 2 J (alt j)):CM 280 s i 0 2 J (Et alt s i):=by
 obtain⟨j,p,k,b,A,f,x,F,w,l⟩:=ai4 r R B;simp only[aV,aq,ay]at f;have L:∃(c:M dq) (a:Nat) (e:Bool),bK (lB G oK) (0,[E 0,.str ⟨#[]⟩,.str s,E (k:Int),.bool b,ct [p]])=Z (0,[.bool J,E 0,.str ⟨#[]⟩,.str s,E (a:Int),.bool e,ct c])/\PA s i 0 (Et alt s i) (su 3 c) a e:=by
  unfold Et;cases y:B9 alt s i with
  |none=>
   rw[y]at l;subst l;obtain⟨c,a,d,g,S,v⟩:=Lq r (s.size+1) k [p] w (by omega) ⟨by simp,by simpa using x⟩;exact⟨c,a,I,d,vy (by have:=g.1;omega) g.2,by omega,v,rfl⟩
  |some q=>
   rw[y]at l;obtain⟨rfl,rfl,T⟩:=l;obtain⟨c,a,e,d,g,S,v,o⟩:=Z4 r B (s.size+1) k [p] F w (by omega) ⟨by simp,by simpa using x⟩;refine⟨c,a,e,d,vy (by have:=g.1;omega) g.2,by omega,v,?_⟩;dsimp only;cases C:BG alt s (s.size+1) k with
   |none=>rw[C]at o;exact o
   |some q=>
    rw[C]at o;obtain⟨Q,P,N⟩:=o;subst P N;exact⟨Q,rfl,by omega⟩
 obtain⟨c,a,e,d,n⟩:=L;have K:∀(t:Nat×M D) (h:dY G (t280.t) 0 [.str s,E (i:Int),.bool J]=Z t),True:=λ_ _=>trivial;by_cases m:c.length=1
 ·obtain⟨q,rfl⟩:=db.1 m;have H:su 3 [q]=q:=rfl;rw[H]at n;refine⟨0,q,a,e,by decide,dd t280 rfl ?_,n⟩
  match j,A with
  |0,_=>simp only[go_sem,t280,cp,f,jy,pr,P1,cu,d,Gw,Gj,aV q]
  |1,_=>simp only[go_sem,t280,cp,f,jy,pr,P1,cu,d,Gw,Gj,aV q]
 ·rw[JK m]at n;refine⟨1,_,a,e,by decide,dd t280 rfl ?_,n⟩
  match j,A with
  |0,_=>simp only[go_sem,t280,cp,f,jy,pr,P1,cu,d,He,m,aV,eT]
  |1,_=>simp only[go_sem,t280,cp,f,jy,pr,P1,cu,d,He,m,aV,eT]
theorem W8(a:s.size<=30):∀(g i:Nat),i<=s.size->s.size+1 - i<=g->CM 280 s i 0 2 J (S_ s g i)
 |0,i,b,c=>by omega
 |g+1,i,b,c=>aeM a b λj e d=>W8 a g j d (by omega)
end
theorem ai5{s:z}:∃j p,j < 3/\G 284 [.str s]=Z (j,jb p++[.bool (jX s)])/\∀q,BH s=Z q->p=q/\xL 64 p=I:=by
 unfold jX BH;by_cases h:30 < s.size
 ·refine⟨0,⟨0,eT,[]⟩,by decide,dd t284 rfl ?_,λq a=>by rw[if_pos h]at a;cases a⟩;rw[if_pos h];simp only[go_sem,t284,cp,yE,h,aV,bO];rfl
 ·rw[if_neg h];obtain⟨j,p,k,b,f,c,i,n,m,e⟩:=W8 (s:=s) (by omega) (s.size+1) 0 (by omega) (by omega);simp only[aV,aq,ay,n0]at c;cases g:S_ s (s.size+1) 0 with
  |none=>
   rw[g]at e;subst e;refine⟨0,⟨0,eT,[]⟩,by decide,dd t284 rfl ?_,λq a=>by cases a⟩
   match j,f with
   |0,_=>simp only[go_sem,t284,cp,yE,h,c,aV,bO];rfl
   |1,_=>simp only[go_sem,t284,cp,yE,h,c,aV,bO];rfl
  |some q=>
   rw[g]at e;obtain⟨rfl,rfl,l⟩:=e;dsimp only;by_cases d:k=s.size
   ·rw[if_pos d];refine⟨j+1,p,by omega,dd t284 rfl ?_,λq a=>by cases a;exact⟨rfl,i⟩⟩
    match j,f with
    |0,_=>simp only[go_sem,t284,cp,yE,h,c,d,aV,cZ]
    |1,_=>simp only[go_sem,t284,cp,yE,h,c,d,aV,cZ]
   ·rw[if_neg d];refine⟨0,⟨0,eT,[]⟩,by decide,dd t284 rfl ?_,λq a=>by cases a⟩
    match j,f with
    |0,_=>simp only[go_sem,t284,cp,yE,Qa,h,c,d,aV,bO];rfl
    |1,_=>simp only[go_sem,t284,cp,yE,Qa,h,c,d,aV,bO];rfl
theorem ai6(s:z):G 285 [.str s]=Z (0,[.bool (jX s)]):=by
 obtain⟨j,p,b,a,_⟩:=ai5 (s:=s);simp only[aV,aq,ay]at a;refine dd t285 rfl ?_
 match j,b with
 |0,_=>simp only[go_sem,t285,a]
 |1,_=>simp only[go_sem,t285,a]
 |2,_=>simp only[go_sem,t285,a]
theorem ai9{t s:z}(g:s.size<=mg):G 310 [.str t,.str s]=Z (0,[.bool (uf t s)]):=by
 obtain⟨j,p,f,a,h⟩:=ai5 (s:=t);simp only[aV,aq,ay]at a;have Qr:∀b,aK .pl [.bool b]=Z (.bool J):=λb=>rfl;refine dd Ov rfl ?_;unfold uf;cases d:BH t with
 |none=>
  have e:jX t=J:=by rw[jX,d];rfl
  rw[e]at a
  match j,f with
  |0,_=>simp only[go_sem,Ov,a]
  |1,_=>simp only[go_sem,Ov,a]
  |2,_=>simp only[go_sem,Ov,a]
 |some q=>
  have e:jX t=I:=by rw[jX,d];rfl
  obtain⟨rfl,i⟩:=h q d;have c:=amF g i;simp only[aV,aq,ay]at c;rw[e]at a
  match j,f with
  |0,_=>simp only[go_sem,Ov,a,c,Qr]
  |1,_=>simp only[go_sem,Ov,a,c,Qr]
  |2,_=>simp only[go_sem,Ov,a,c,Qr]
end
def gv(c:Bool)(r:u D):u D:=if c=I then r else Z (.bool J)
def gw(c:Bool)(x:D):D:=if c=I then x else .bool J
@[congr] theorem agQ {c a:Bool} {r b:u D} (h:c=a) (d:a=I->r=b):gv c r=gv a b:=by
 subst h;unfold gv;split
 ·exact d (by assumption)
 ·rfl
theorem dE(r:u D):gv I r=r:=(rfl)
theorem dC(r:u D):gv J r=Z (.bool J):=(rfl)
theorem dD(c:Bool)(x:D):gv c (Z x)=Z (gw c x):=by cases c<;>rfl
theorem bw(a b:Bool)(r:u D):gv (a && b) r=gv a (gv b r):=by cases a<;>cases b<;>rfl
theorem dH(x:D):gw I x=x:=(rfl)
theorem dG(x:D):gw J x=.bool J:=(rfl)
theorem dF(c b:Bool):gw c (.bool b)=.bool (c && b):=by cases c<;>rfl
theorem dJ(G:Gf)(a:M D)(c:Bool)(o:PO)(es:M SE)(t:ST):WE (Z c) G o es t a=opT (gv c (poT o (iT a es))) G t a:=by cases c<;>rfl
theorem agM(G:Gf)(d:M D)(c:Bool)(a b:ST):TN (Z c) G a b d=if c=I then TN (Z I) G a b d else TN (Z J) G a b d:=by cases c<;>rfl
theorem aeg(k:IntKind)(a b:Int):aK (.bin .eql) [.int k a,.int k b]=Z (.bool (Z' (a=b))):=by rw[sf];rfl
theorem ael(k:IntKind)(a b:Int):aK (.bin .neq) [.int k a,.int k b]=Z (.bool (!Z' (a=b))):=by rw[sf];rfl
theorem aek(k:IntKind)(a b:Int):aK (.bin .lss) [.int k a,.int k b]=Z (.bool (Z' (a < b))):=by rw[sf];rfl
theorem aej(k:IntKind)(a b:Int):aK (.bin .leq) [.int k a,.int k b]=Z (.bool (Z' (a<=b))):=by rw[sf];rfl
theorem aei(k:IntKind)(a b:Int):aK (.bin .gtr) [.int k a,.int k b]=Z (.bool (Z' (b < a))):=by rw[sf];rfl
theorem aeh(k:IntKind)(a b:Int):aK (.bin .geq) [.int k a,.int k b]=Z (.bool (Z' (b<=a))):=by rw[sf];rfl
theorem aee(k:IntKind)(a b:Int):aK (.bin .add) [.int k a,.int k b]=Z (.int k (k.wrap (a+b))):=by rw[sf];rfl
theorem aeo(k:IntKind)(a b:Int):aK (.bin .sub) [.int k a,.int k b]=Z (.int k (k.wrap (a - b))):=by rw[sf];rfl
theorem aen(a b:z):aK (.bin .eql) [.str a,.str b]=Z (.bool (Z' (a=b))):=by rw[Qt];rfl
theorem aem(a b:z):aK (.bin .neq) [.str a,.str b]=Z (.bool (!Z' (a=b))):=by rw[Qt];rfl
theorem aef(a b:Bool):aK (.TL .neq) [.bool a,.bool b]=Z (.bool (!Z' (a=b))):=(rfl)
attribute [go_sem 2000] aeg ael aek aej aei aeh aee aeo aen aem aef
theorem jL(a b:Bool):(a ||(!a && b))=(a ||b):=by cases a<;>rfl
theorem jM(a b:Bool):(!a ||(a && b))=(!a ||b):=by cases a<;>rfl
theorem jN(a b:Bool):(a && (!a ||b))=(a && b):=by cases a<;>rfl
theorem jO(a b:Bool):(!a && (a ||b))=(!a && b):=by cases a<;>rfl
theorem al2(k:IntKind)(n:Int):aK .pl [.int k n]=Z (.bool J):=(rfl)
theorem al1(b:Bool):aK .pl [.bool b]=Z (.bool J):=(rfl)
attribute [go_sem] al2 al1
section
theorem Qr(n:Int):aK .pl [E n]=Z (.bool J):=(rfl)
theorem N6(b:Bool):aK .pl [.bool b]=Z (.bool J):=(rfl)
theorem pG{l:M aD}{i:Nat}{y:aD}(h:nth l i=Z y):aK (.el 3) [aZ l,E (i:Int)]=Z (.list 0 J [bp y]):=by
 rw[pT,aN,h];rfl
theorem tc{l:M aD}{y:aD}(a:bQ bp l<=mg)(h:y∈l):y.ae.length<=mg/\bQ bp y.ae<=mg:=by
 have a1:=eh bp h;rw[jJ]at a1;refine⟨?_,by omega⟩;simp only[bQ]at a1 a;omega
theorem yO{n:ah}(a:fN (aB n)<=mg):n.bl.length<=mg:=by
 rw[dN]at a;simp only[bQ]at a;omega
theorem Qe:∀{a b:M z},a.length=b.length->(∀j x,nth a j=Z x->nth b j=Z x)->a=b
 |[],[],_,_=>rfl
 |x::a,y::b,h,d=>by
  have f:=d 0 x rfl;cases f;rw[Qe (a:=a) (b:=b) (by simpa using h) λj c e=>d (j+1) c e]
theorem YT{a b:M z}(h:a.length=b.length):allI (λi e=>Z' (nth b i=Z e)) 0 a=Z' (a=b):=by
 rw[dL,mm];simp only[bD,decide_eq_true_eq];exact⟨λd=>Qe h d,λe j x c=>e▸c⟩
theorem aiI{a b:M z}(n:a.length<=mg):G 100 [aO a,aO b]=Z (0,[.bool (Z' (a=b))]):=by
 refine dd t100 rfl ?_;by_cases j:a.length=b.length
 ·have d:(a.length:Int)=(b.length:Int):=by omega
  have h:=n6 (b:=lB G DF) a (λi=>(0,[aO a,aO b,E a.length,E (i:Int)])) (λi e=>Z' (nth b i=Z e)) (1,[aO a,aO b,E a.length,E a.length,.bool J]) (0,[.bool J]) (by
   intro i e g;have k:=bF g;have m:=wj k n;have l:nth b i=Z (b[i]'(by omega)):=dV (by omega);rw[l];generalize (b[i]'(by omega))=f at *;by_cases c:e=f
   ·subst c;simp only[go_sem,bn,DF,k,m,aN,g,l,fR,aa]
   ·have o:¬f=e:=λh=>c h.symm;simp only[go_sem,bn,DF,k,m,aN,g,l,fR,c,o,aa]) (by simp only[go_sem,bn,DF,aG]) a.length 0 (by omega)
  rw[n0,cK,YT j]at h;rw[j]at h;cases hd:Z' (a=b)<;>rw[hd]at h<;>simp only[go_sem]at h<;>simp only[go_sem,t100,d,h]
 ·have d:¬(a.length:Int)=(b.length:Int):=by omega
  have p:¬a=b:=λh=>j (by rw[h]);simp only[go_sem,t100,d,p]
theorem alx(j:Nat):Z' ((j:Int) < 0)=J:=by simp only[decide_eq_false_iff_not];omega
theorem wV(k:Int)(e:ah)(b:Bool):aK .LJ [E k,.str e.name_q,E e.type.aw,fH e.type.ranges,aO e.type.names,.str e.type.pattern,.str e.type.path,aO e.bl,aO e.unique,.str e.default,.bool e.given,.bool e.fy,.bool e.cT,.bool e.fixed,E e.min,E e.max,dm e.when,dm e.iP,az e.ae,.bool b]=Z (.bool J):=(rfl)
end
section
theorem hX{a:Type}(l:M a):Z' ((0:Int) < (l.length:Int))=!l.isEmpty:=by cases l<;>simp
theorem R7{n:ah}(o:fN (aB n)<=mg) :
  bK (lB G AD) (0,E 0::aB n)=Z (if n.bl.all (B3 n.ae)=I then (1,E n.bl.length::.bool J::aB n) else (0,[.bool J])):=by
 have c:=o;rw[dN]at c;have v:n.bl.length<=mg:=by simp only[bQ]at c;omega
 have r:n.ae.length<=mg:=by simp only[bQ]at c;omega
 have t:=lf (b:=lB G AD) n.bl (λi=>(0,E (i:Int)::aB n)) (B3 n.ae) (1,E n.bl.length::.bool J::aB n) (0,[.bool J]) (by
  intro i e f;have k:=bF f;have m:=wj k v;have d:=Xc (l:=n.ae) (nm:=e) r;clear o c;cases a:dh n.ae e with
  |none=>
   have h:B3 n.ae e=J:=by simp only[B3,wC,a]
   rw[a]at d;simp +contextual -implicitDefEqProofs only [go_sem,dJ,dE,dC,dD,bw,dH,dG,dF,bn,AD,ai n,k,aN,f,fR,d,jG,h]
  |some j=>
   obtain⟨x,p,_⟩:=dy a;have h:B3 n.ae e=(Z' (x.aw=3) && R3 x):=by simp only[B3,wC,a,p]
   have s:Z' ((j:Int) < 0)=J:=by simp only[decide_eq_false_iff_not];omega
   rw[a]at d;rw[h,R3];simp +contextual -implicitDefEqProofs only [go_sem,dJ,dE,dC,dD,bw,dH,dG,dF,bn,AD,ai n,k,aN,f,fR,d,jG]
   simp +contextual -implicitDefEqProofs only [go_sem,dJ,dE,dC,dD,bw,dH,dG,dF,s,p,aN,ai x,hX,m]
   rw[agM];generalize Z' (x.aw=3)=v3;generalize x.when.isEmpty=w;generalize x.given=g;generalize Z' (x.type.aw=6)=q;cases v3<;>cases w<;>cases g<;>cases q<;>simp +contextual -implicitDefEqProofs only [go_sem,dJ,dE,dC,dD,bw,dH,dG,dF,m]) (by simp +contextual -implicitDefEqProofs only [go_sem,dJ,dE,dC,dD,bw,dH,dG,dF,bn,AD,ai n,aG])
 exact t
theorem R8{n:ah}(m:fN (aB n)<=mg) :
  bK (lB G AE) (0,E 0::aB n)=Z (if n.unique.all (EZ n.ae)=I then (1,E n.unique.length::.bool J::aB n) else (0,[.bool J])):=by
 have c:=m;rw[dN]at c;have s:n.unique.length<=mg:=by simp only[bQ]at c;omega
 have p:n.ae.length<=mg:=by simp only[bQ]at c;omega
 have r:=lf (b:=lB G AE) n.unique (λi=>(0,E (i:Int)::aB n)) (EZ n.ae) (1,E n.unique.length::.bool J::aB n) (0,[.bool J]) (by
  intro i e f;have h:=bF f;have k:=wj h s;have d:=Xc (l:=n.ae) (nm:=e) p;clear m c;cases a:dh n.ae e with
  |none=>
   have g:EZ n.ae e=J:=by simp only[EZ,wC,a]
   rw[a]at d;simp +contextual -implicitDefEqProofs only [go_sem,dJ,dE,dC,dD,bw,dH,dG,dF,bn,AE,ai n,h,aN,f,fR,d,jG,g]
  |some j=>
   obtain⟨x,o,_⟩:=dy a;have g:EZ n.ae e=Z' (x.aw=3):=by simp only[EZ,wC,a,o]
   have q:Z' ((j:Int) < 0)=J:=by simp only[decide_eq_false_iff_not];omega
   rw[a]at d;rw[g];simp +contextual -implicitDefEqProofs only [go_sem,dJ,dE,dC,dD,bw,dH,dG,dF,bn,AE,ai n,h,aN,f,fR,d,jG]
   simp +contextual -implicitDefEqProofs only [go_sem,dJ,dE,dC,dD,bw,dH,dG,dF,q,o,aN,ai x,k]
   rw[agM];generalize Z' (x.aw=3)=v3;cases v3<;>simp +contextual -implicitDefEqProofs only [go_sem,dJ,dE,dC,dD,bw,dH,dG,dF,k]) (by simp +contextual -implicitDefEqProofs only [go_sem,dJ,dE,dC,dD,bw,dH,dG,dF,bn,AE,ai n,aG])
 exact r
theorem al_{n:ah}(k:fN (aB n)<=mg):G 214 (aB n)=Z (0,[.bool (Ee n)]):=by
 have j:=k;rw[dN]at j;have d:=R7 k;have e:=R8 k;have g:=aiM n.type;have i:=aiN (l:=n.bl) (by simp only[bQ]at j;omega);have h:=aiN (l:=n.unique) (by simp only[bQ]at j;omega);have f:=aiO n;clear k j;unfold Ee;rw[ef]at g;simp only[ai n]at d e f;refine dd t214 (by rw[ai];rfl) ?_;generalize n.bl.all (B3 n.ae)=q at *;generalize n.unique.all (EZ n.ae)=p at *;generalize zT n.type=c at *;generalize vh n.bl=a at *;generalize vh n.unique=b at *;generalize mH n=o at *;cases q
 ·simp +contextual -implicitDefEqProofs only [go_sem,dJ,dE,dC,dD,bw,dH,dG,dF]at d
  simp +contextual -implicitDefEqProofs only [go_sem,dJ,dE,dC,dD,bw,dH,dG,dF,t214,ai n,d]
 cases p
 ·simp +contextual -implicitDefEqProofs only [go_sem,dJ,dE,dC,dD,bw,dH,dG,dF]at d
  simp +contextual -implicitDefEqProofs only [go_sem,dJ,dE,dC,dD,bw,dH,dG,dF]at e
  simp +contextual -implicitDefEqProofs only [go_sem,dJ,dE,dC,dD,bw,dH,dG,dF,t214,ai n,d,e]
 simp +contextual -implicitDefEqProofs only [go_sem,dJ,dE,dC,dD,bw,dH,dG,dF]at d
 simp +contextual -implicitDefEqProofs only [go_sem,dJ,dE,dC,dD,bw,dH,dG,dF]at e
 cases c
 ·simp only[go_sem,dJ,dE,dC,dD,bw,dH,dG,dF,hX,g,i,h,f,cp,a_,t214,ai n,d,e]
 cases m:n.bl.isEmpty
 rotate_left
 ·simp only[go_sem,dJ,dE,dC,dD,bw,dH,dG,dF,hX,g,i,h,f,cp,a_,t214,ai n,d,e,m]
 cases a
 ·simp only[go_sem,dJ,dE,dC,dD,bw,dH,dG,dF,hX,g,i,h,f,cp,a_,t214,ai n,d,e,m]
 cases b
 ·simp only[go_sem,dJ,dE,dC,dD,bw,dH,dG,dF,hX,g,i,h,f,cp,a_,t214,ai n,d,e,m]
 cases o<;>simp only[go_sem,dJ,dE,dC,dD,bw,dH,dG,dF,hX,g,i,h,f,cp,a_,t214,ai n,d,e,m]
 generalize n.given=v;generalize n.fy=t;generalize n.cT=s;generalize n.fixed=r;cases v<;>cases t<;>cases s<;>cases r<;>rfl
end
section
theorem LP(o:u Nat)(i:Nat):Z' (jG o=(i:Int))=Z' (o=Z i):=by
 cases o with
 |none=>simp[jG]
 |some j=>exact decide_eq_decide.2 ⟨λh=>congrArg Z (Int.ofNat.inj h),λh=>congrArg Int.ofNat (iE h)⟩
theorem akN{d:M ah}{j:Nat}{e:ah}(h:nth d j=Z e):aK (.Gv 19 1 1 I) [az d,E (j:Int)]=Z (.list 0 J [aB e]):=by
 simp only[aK,cq,aN,h,aH];rw[ai];exact if_pos ⟨trivial,by decide,by simp only[aE];omega,rfl⟩
section
variable {ip:z->Bool} {mt:z->z->Bool} (hP:∀s:z,s.size<=mg->G 227 [.str s]=Z (0,[.bool (ip s)])) (hM:∀p s:z,p.size<=mg->s.size<=mg->G 236 [.str p,.str s]=Z (0,[.bool (mt p s)]))
include hP hM
theorem ami{n:ah}{free:Bool}(H:fN (aB n)<=mg):G 239 (aB n++[.bool free])=Z (0,[.bool (wU ip mt n free)]):=by
 have P:=H;rw[dN]at P;have f:=aaK (s:=n.name_q) (by omega);have d:G 210 [dm n.when,E 1]=_:=aiL (m:=1) (by omega);have c:G 210 [dm n.iP,E 3]=_:=aiL (m:=3) (by omega);have D:=aiM n.type;have L:=al_ H;have i:=aiS hP (t:=n.type) (by omega);have C:=aiO n;have Q:=aiV hP hM (t:=n.type) (s:=n.default) (by omega) (by omega);clear H P hP hM;simp only[ef,ai n,aq,ay]at D L i C Q;refine dd t239 (by rw[ai];rfl) ?_;unfold wU GP;generalize isName n.name_q=W at *;generalize Fx n.when 1=V at *;generalize Fx n.iP 3=U at *;generalize N:zT n.type=a at *;generalize S:isType ip n.type=it at *;generalize X:mH n=os at *;cases W
 ·simp +contextual -implicitDefEqProofs only [go_sem,dJ,dE,dC,dD,bw,dH,dG,dF,ax,jL,jM,jN,jO,aI,eI,eH,f,d,c,fx,cp,a_,t239,ai n]
 cases V
 ·simp +contextual -implicitDefEqProofs only [go_sem,dJ,dE,dC,dD,bw,dH,dG,dF,ax,jL,jM,jN,jO,aI,eI,eH,f,d,c,fx,cp,a_,t239,ai n]
 cases U
 ·simp +contextual -implicitDefEqProofs only [go_sem,dJ,dE,dC,dD,bw,dH,dG,dF,ax,jL,jM,jN,jO,aI,eI,eH,f,d,c,fx,cp,a_,t239,ai n]
 have r:(n.bl.isEmpty && n.unique.isEmpty && Z' (n.default.size=0) && !n.given && !n.fixed && Z' (n.min=0) && Z' (n.max=0))=qz n:=by simp only[qz,gR]
 by_cases x:n.aw=1
 ·have k:jV ip mt n free=(qz n && (!n.fy && a)):=by simp only[jV,x,N];rfl
  rw[k];simp +contextual -implicitDefEqProofs only [go_sem,dJ,dE,dC,dD,bw,dH,dG,dF,ax,jL,jM,jN,jO,aI,eI,eH,f,d,c,fx,cp,a_,t239,ai n,x]
  rw[r];generalize qz n=v at *;clear r;obtain⟨w,l⟩:∃w,n.fy=w:=⟨_,rfl⟩
  cases v<;>cases w<;>simp only[go_sem,f,d,c,fx,cp,a_,t239,ai n,D,l]
 by_cases k:n.aw=2
 ·have e:jV ip mt n free=Ee n:=by simp only[jV,x,k,if_true,if_false];rfl
  rw[e];rw[k]at L;simp +contextual -implicitDefEqProofs only [go_sem,dJ,dE,dC,dD,bw,dH,dG,dF,ax,jL,jM,jN,jO,aI,eI,eH,f,d,c,fx,cp,a_,t239,ai n,k,L]
 by_cases h:n.aw=3
 ·obtain⟨g,q⟩:∃g,(n.bl.isEmpty && n.unique.isEmpty && Z' (n.min=0) && Z' (n.max=0) && !n.cT && n.ae.isEmpty)=g:=⟨_,rfl⟩
  have e:yQ ip n=(g && it):=by simp only[yQ,<- q,gR,S]
  have R:jV ip mt n free=if n.given=I then (g && it) && (free && (!n.fy && (n.when.isEmpty && isVal ip mt n.type n.default))) else (g && it) && Z' (n.default.size=0):=by
   simp only[jV,h,e];rfl
  rw[R];generalize isVal ip mt n.type n.default=Y at *;obtain⟨K,o⟩:∃w,n.given=w:=⟨_,rfl⟩
  obtain⟨ne,B⟩:∃w,n.fy=w:=⟨_,rfl⟩
  obtain⟨T,l⟩:∃w,n.when.isEmpty=w:=⟨_,rfl⟩
  rw[o];simp +contextual -implicitDefEqProofs only [go_sem,dJ,dE,dC,dD,bw,dH,dG,dF,ax,jL,jM,jN,jO,aI,eI,eH,f,d,c,fx,cp,a_,t239,ai n,h,i]
  rw[q];clear q e R;cases g
  ·cases K<;>simp +contextual -implicitDefEqProofs only [go_sem,dJ,dE,dC,dD,bw,dH,dG,dF,ax,jL,jM,jN,jO,aI,eI,eH,f,d,c,fx,cp,a_,t239,ai n,h,i,o]
  cases it
  ·cases K<;>simp +contextual -implicitDefEqProofs only [go_sem,dJ,dE,dC,dD,bw,dH,dG,dF,ax,jL,jM,jN,jO,aI,eI,eH,f,d,c,fx,cp,a_,t239,ai n,h,i,o]
  cases K
  ·simp +contextual -implicitDefEqProofs only [go_sem,dJ,dE,dC,dD,bw,dH,dG,dF,ax,jL,jM,jN,jO,aI,eI,eH,f,d,c,fx,cp,a_,t239,ai n,h,i,o]
  cases free
  ·simp +contextual -implicitDefEqProofs only [go_sem,dJ,dE,dC,dD,bw,dH,dG,dF,ax,jL,jM,jN,jO,aI,eI,eH,f,d,c,fx,cp,a_,t239,ai n,h,i,o]
  cases ne
  rotate_left
  ·simp +contextual -implicitDefEqProofs only [go_sem,dJ,dE,dC,dD,bw,dH,dG,dF,ax,jL,jM,jN,jO,aI,eI,eH,f,d,c,fx,cp,a_,t239,ai n,h,i,o,B]
  cases T<;>simp +contextual -implicitDefEqProofs only [go_sem,dJ,dE,dC,dD,bw,dH,dG,dF,ax,jL,jM,jN,jO,aI,eI,eH,f,d,c,fx,cp,a_,t239,ai n,h,i,o,B,l,Q]
 by_cases j:n.aw=4
 ·obtain⟨g,q⟩:∃g,(n.bl.isEmpty && n.unique.isEmpty && Z' (n.default.size=0) && !n.given && !n.fixed && !n.fy && !n.cT && n.ae.isEmpty)=g:=⟨_,rfl⟩
  have e:jV ip mt n free=(g && (os && it)):=by simp only[jV,j,<- q,LC,gR,S,X];rfl
  rw[e];rw[j]at C;simp +contextual -implicitDefEqProofs only [go_sem,dJ,dE,dC,dD,bw,dH,dG,dF,ax,jL,jM,jN,jO,aI,eI,eH,f,d,c,fx,cp,a_,t239,ai n,j,C,i]
  rw[q];clear q e;cases g
  ·simp +contextual -implicitDefEqProofs only [go_sem,dJ,dE,dC,dD,bw,dH,dG,dF,ax,jL,jM,jN,jO,aI,eI,eH,f,d,c,fx,cp,a_,t239,ai n,j]
  cases os<;>simp +contextual -implicitDefEqProofs only [go_sem,dJ,dE,dC,dD,bw,dH,dG,dF,ax,jL,jM,jN,jO,aI,eI,eH,f,d,c,fx,cp,a_,t239,ai n,j,C,i]
 by_cases A:n.aw=5
 ·have e:jV ip mt n free=(qz n && (!n.cT && (n.iP.isEmpty && a))):=by simp only[jV,A,N];rfl
  rw[e];simp +contextual -implicitDefEqProofs only [go_sem,dJ,dE,dC,dD,bw,dH,dG,dF,ax,jL,jM,jN,jO,aI,eI,eH,f,d,c,fx,cp,a_,t239,ai n,A]
  rw[r];generalize qz n=v at *;clear r;obtain⟨w,l⟩:∃w,n.cT=w:=⟨_,rfl⟩
  obtain⟨b,F⟩:∃w,n.iP.isEmpty=w:=⟨_,rfl⟩
  cases v<;>cases w<;>cases b<;>simp only[go_sem,f,d,c,fx,cp,a_,t239,ai n,D,l,F]
 by_cases y:n.aw=6
 ·have e:jV ip mt n free=(qz n && (!n.cT && (!n.fy && (n.iP.isEmpty && a)))):=by simp only[jV,y,N];rfl
  rw[e];simp +contextual -implicitDefEqProofs only [go_sem,dJ,dE,dC,dD,bw,dH,dG,dF,ax,jL,jM,jN,jO,aI,eI,eH,f,d,c,fx,cp,a_,t239,ai n,y]
  rw[r];generalize qz n=v at *;clear r;obtain⟨w,l⟩:∃w,n.cT=w:=⟨_,rfl⟩
  obtain⟨b,F⟩:∃w,n.iP.isEmpty=w:=⟨_,rfl⟩
  obtain⟨ne,B⟩:∃w,n.fy=w:=⟨_,rfl⟩
  cases v<;>cases w<;>cases b<;>cases ne<;>simp only[go_sem,f,d,c,fx,cp,a_,t239,ai n,D,l,F,B]
 have e:jV ip mt n free=J:=by simp only[jV,x,k,h,j,A,y,if_false]
 rw[e];simp +contextual -implicitDefEqProofs only [go_sem,dJ,dE,dC,dD,bw,dH,dG,dF,ax,jL,jM,jN,jO,aI,eI,eH,f,d,c,fx,cp,a_,t239,ai n,x,k,h,j,A,y]
theorem aeC(m:Nat):∀(l:M ah) (k:Int) (free:Bool) (deep:Nat),av l < m->bQ aB l<=mg->deep+sO l<=2 * mg->
  G 240 [az l,E k,.bool free,E (deep:Int)]=Z (0,[.bool (qP ip mt m l k free deep)]):=by
 induction m with
 |zero=>intro l k free deep h;omega
 |succ m w=>
  intro l k free deep F j hd;have H:l.length<=mg:=by simp only[bQ]at j;omega
  have t:=q81 j;have D:(dk l).length<=mg:=by have:=nH (es:=l);simp only[bQ]at this j;omega
  have d:=n6 (b:=lB G xy) l (λi=>(0,[az l,E k,.bool free,E (deep:Int),E (i:Int),az (dk l)])) (λi n=>Z' (dh l n.name_q=Z i) && (Z' (Z' (k=5)=Z' (n.aw=6)) && (wU ip mt n free && qP ip mt m n.ae n.aw (sI n free) (deep+1))))
   (1,[az l,E k,.bool free,E (deep:Int),E l.length,.bool J,az (dk l)]) (0,[.bool J]) (by
   intro i n a;have c:=bF a;have e:=wj c H;have A:=bz a;have C:fN (aB n)<=mg:=by have:=eh aB A;omega
   have f:=Xc (l:=l) (nm:=n.name_q) H;have r:=ami hP hM (n:=n) (free:=free) C;have q:=w n.ae n.aw (sI n free) (deep+1) (by have:=aX A;have:=ah.ek n;omega) (aL (jI n) C) (by have:=(Cn l _).1 (au _) n A;omega);have g:=LP (dh l n.name_q) i;have x:IntKind.i64.wrap ((deep:Int)+1)=((deep+1:Nat):Int):=by rw[wrap_i64 (by simp only[mg]at hd;omega)];omega
   have hB:(free && n.when.isEmpty && !Z' (n.aw=6))=sI n free:=by simp only[sI,gR]
   simp only[ai n,aq,ay]at r;clear w hP hM j F hd C t;rw[<- hB]at q ⊢;clear hB;generalize wU ip mt n free=K at *;generalize qP ip mt m n.ae n.aw (free && n.when.isEmpty && !Z' (n.aw=6)) (deep+1)=L at *;generalize Z' (dh l n.name_q=Z i)=y at *;obtain⟨di,v⟩:∃b,Z' (Z' (k=5)=Z' (n.aw=6))=b:=⟨_,rfl⟩
   rw[v];cases y
   ·simp +contextual -implicitDefEqProofs only [go_sem,dJ,dE,dC,dD,bw,dH,dG,dF,ax,jL,jM,jN,jO,aI,eI,eH,bn,xy,c,e,aN,a,ai n,ba,fx,v,f,g,x,r,q]
   cases di
   ·simp +contextual -implicitDefEqProofs only [go_sem,dJ,dE,dC,dD,bw,dH,dG,dF,ax,jL,jM,jN,jO,aI,eI,eH,bn,xy,c,e,aN,a,ai n,ba,fx,v,f,g,x,r,q]
   cases K
   ·simp +contextual -implicitDefEqProofs only [go_sem,dJ,dE,dC,dD,bw,dH,dG,dF,ax,jL,jM,jN,jO,aI,eI,eH,bn,xy,c,e,aN,a,ai n,ba,fx,v,f,g,x,r,q]
   cases L<;>simp +contextual -implicitDefEqProofs only [go_sem,dJ,dE,dC,dD,bw,dH,dG,dF,ax,jL,jM,jN,jO,aI,eI,eH,bn,xy,c,e,aN,a,ai n,ba,fx,v,f,g,x,r,q]
   ) (by simp only[go_sem,bn,xy,aG]) l.length 0 (by omega)
  have o:=n6 (b:=lB G IM) (dk l) (λi=>(0,[az l,E (deep:Int),E (i:Int),az (dk l)])) (λi n=>Z' (dh (dk l) n.name_q=Z i))
   (1,[az l,E (deep:Int),E (dk l).length,.bool J,az (dk l)]) (0,[.bool J]) (by
   intro i n a;have c:=bF a;have e:=wj c D;have f:=Xc (l:=dk l) (nm:=n.name_q) D;have g:=LP (dh (dk l) n.name_q) i;have g1:=xP 19 J ((dk l).map aB) i (by rw[aj];exact c);have g2:=akN a;clear w hP hM j F hd t;generalize Z' (dh (dk l) n.name_q=Z i)=y at *;cases y<;>simp +contextual -implicitDefEqProofs only [go_sem,dJ,dE,dC,dD,bw,dH,dG,dF,ax,jL,jM,jN,jO,aI,eI,eH,bn,IM,c,e,aN,a,ai n,ba,f,g,g1,g2]
   ) (by simp only[go_sem,bn,IM,aG]) (dk l).length 0 (by omega)
  rw[n0,cK]at d o;have B:Z' ((deep:Int)<=8)=Z' (deep<=8):=decide_eq_decide.2 (by omega);refine dd t240 rfl ?_;rw[qP];generalize allI _ 0 l=a1 at *;generalize allI _ 0 (dk l)=a2 at *;clear w hP hM;cases a1
  ·simp only[go_sem]at d;simp +contextual -implicitDefEqProofs only [go_sem,dJ,dE,dC,dD,bw,dH,dG,dF,ax,jL,jM,jN,jO,aI,eI,eH,t240,t,d]
  cases a2
  ·simp only[go_sem]at d;simp only[go_sem]at o;simp +contextual -implicitDefEqProofs only [go_sem,dJ,dE,dC,dD,bw,dH,dG,dF,ax,jL,jM,jN,jO,aI,eI,eH,t240,t,d,o]
  simp only[go_sem]at d;simp only[go_sem]at o;simp +contextual -implicitDefEqProofs only [go_sem,dJ,dE,dC,dD,bw,dH,dG,dF,ax,jL,jM,jN,jO,aI,eI,eH,t240,t,d,o,B,fx]
theorem aiW{l:M ah}(a:bQ aB l<=mg):G 241 [az l]=Z (0,[.bool (tR ip mt l)]):=by
 obtain⟨r,f,d⟩:=al4 a (x:=60) (by omega) (by omega);have b:=aeC hP hM (av l+1) l 0 I 1 (aY _) a (by have:=UJ (l:=l);simp only[mg]at *;omega);rw[n1]at b;have e:Z' (0<=r)=Z' (eA l<=60):=by
  apply decide_eq_decide.2
  unfold vA at d;omega
 clear hP hM d;refine dd t241 rfl ?_;unfold tR;generalize qP ip mt (av l+1) l 0 I 1=k at *;generalize Z' (eA l<=60)=c at *;cases c<;>simp +contextual -implicitDefEqProofs only [go_sem,dJ,dE,dC,dD,bw,dH,dG,dF,ax,jL,jM,jN,jO,aI,eI,eH,t241,f,e,b]
end
end
section
theorem ac7{c β:Type}(a:M c)(b:M β)(e:a.length<=mg)(d:b.length<=mg):Z' ((0:Int) < IntKind.i64.wrap ((a.length:Int)+(b.length:Int)))=!(a.isEmpty && b.isEmpty):=by
 rw[wrap_i64 (by simp only[mg]at e d;omega)];cases a<;>cases b<;>simp<;>omega
theorem uS{b:Type}(a:M b):Z' ((1:Int)<=(a.length:Int))=!a.isEmpty:=by cases a<;>simp;omega
section
variable {ip:z->Bool} {mt:z->z->Bool} (hP:∀s:z,s.size<=mg->G 285 [.str s]=Z (0,[.bool (ip s)])) (hM:∀p s:z,p.size<=mg->s.size<=mg->G 310 [.str p,.str s]=Z (0,[.bool (mt p s)]))
include hP hM
theorem amH{n:ah}(V:fN (aB n)<=mg):G 313 (aB n)=Z (0,[.bool (za ip mt n)]):=by
 have P:=V;rw[dN]at P;have e:=aaP (s:=n.name_q) (by omega);have d:G 269 [dm n.when,E 1]=_:=ai1 (m:=1) (by omega);have c:G 269 [dm n.iP,E 3]=_:=ai1 (m:=3) (by omega);have f:=amx n.type;have N:=amy n;have r:=ai7 hP (t:=n.type) (by omega);have X:=ai_ hP hM (t:=n.type) (s:=n.default) (by omega) (by omega);have h:=zO n.aw;have U:n.bl.length<=mg:=by simp only[bQ]at P;omega
 have T:n.unique.length<=mg:=by simp only[bQ]at P;omega
 have g1:=ac7 n.bl n.unique U T;have g2:=Tg (l:=n.bl) U;have g3:=Tg (l:=n.unique) T;have g4:=aeK (l:=n.bl) (by omega);have W:=aeK (l:=n.unique) (by omega);have B:Z' ((n.bl.length:Int)<=3)=Z' (n.bl.length<=3):=decide_eq_decide.2 (by omega);have R:Z' ((n.unique.length:Int)<=3)=Z' (n.unique.length<=3):=decide_eq_decide.2 (by omega);clear V P hP hM U T;simp only[ef,ai n,aq,ay]at f N r X;refine dd lg (by rw[ai];rfl) ?_;unfold za GP;generalize isName n.name_q=h1 at *;generalize Fx n.when 1=h2 at *;generalize Fx n.iP 3=h3 at *;generalize H:zT n.type=a at *;generalize D:isType ip n.type=it at *;generalize C:mH n=os at *;cases h1
 ·simp +contextual -implicitDefEqProofs only [go_sem,dJ,dE,dC,dD,bw,dH,dG,dF,ax,jL,jM,jN,jO,aI,eI,eH,e,d,c,fx,cp,a_,hX,lg,ai n]
 cases h2
 ·simp +contextual -implicitDefEqProofs only [go_sem,dJ,dE,dC,dD,bw,dH,dG,dF,ax,jL,jM,jN,jO,aI,eI,eH,e,d,c,fx,cp,a_,hX,lg,ai n]
 cases h3
 ·simp +contextual -implicitDefEqProofs only [go_sem,dJ,dE,dC,dD,bw,dH,dG,dF,ax,jL,jM,jN,jO,aI,eI,eH,e,d,c,fx,cp,a_,hX,lg,ai n]
 by_cases A:n.aw=1
 ·have h:G 92 [E 1]=Z (0,[.bool I]):=zO 1;have j:pC n=(!a ||!(n.bl.isEmpty && n.unique.isEmpty) ||(!Z' (n.default.size=0) ||n.given ||n.fixed) ||n.fy ||(!Z' (n.min=0) ||!Z' (n.max=0))):=by simp[pC,A,H,mc,fG,iq]
  have i:lK ip mt n=I:=by simp[lK,A,D,C]
  rw[j,i];simp +contextual -implicitDefEqProofs only [go_sem,dJ,dE,dC,dD,bw,dH,dG,dF,ax,jL,jM,jN,jO,aI,eI,eH,e,d,c,fx,cp,a_,hX,lg,ai n,f,g1,A]
  generalize (!a ||!(n.bl.isEmpty && n.unique.isEmpty) ||(!Z' (n.default.size=0) ||n.given ||n.fixed) ||n.fy ||(!Z' (n.min=0) ||!Z' (n.max=0)))=F at *;clear j i;cases F<;>simp +contextual -implicitDefEqProofs only [go_sem,dJ,dE,dC,dD,bw,dH,dG,dF,ax,jL,jM,jN,jO,aI,eI,eH,e,d,c,fx,cp,a_,hX,lg,ai n,f,g1,A,h]
 by_cases k:n.aw=2
 ·have h:G 92 [E 2]=Z (0,[.bool I]):=zO 2;rw[k]at N;have j:pC n=(!a ||(!Z' (n.default.size=0) ||n.given ||n.fixed) ||n.fy ||n.cT):=by simp[pC,k,H,mc,fG,iq]
  have i:lK ip mt n=(!n.bl.isEmpty && (nj n.bl && (nj n.unique && os))):=by simp[lK,k,D,C]
  rw[j,i];simp +contextual -implicitDefEqProofs only [go_sem,dJ,dE,dC,dD,bw,dH,dG,dF,ax,jL,jM,jN,jO,aI,eI,eH,e,d,c,fx,cp,a_,hX,lg,ai n,f,g1,k]
  generalize (!a ||(!Z' (n.default.size=0) ||n.given ||n.fixed) ||n.fy ||n.cT)=F at *;clear j i;unfold nj;generalize Z' (n.bl.length<=3)=c1 at *;generalize Z' (n.unique.length<=3)=c2 at *;generalize sM n.bl=c3 at *;generalize sM n.unique=c4 at *;generalize n.bl.all isName=c5 at *;generalize n.unique.all isName=c6 at *;obtain⟨K,g⟩:∃b,n.bl.isEmpty=b:=⟨_,rfl⟩
  rw[g];cases F
  rotate_left
  ·simp +contextual -implicitDefEqProofs only [go_sem,dJ,dE,dC,dD,bw,dH,dG,dF,ax,jL,jM,jN,jO,aI,eI,eH,e,d,c,fx,cp,a_,hX,lg,ai n,f,g1,k,h]
  cases K
  rotate_left
  ·simp +contextual -implicitDefEqProofs only [go_sem,dJ,dE,dC,dD,bw,dH,dG,dF,ax,jL,jM,jN,jO,aI,eI,eH,e,d,c,fx,cp,a_,hX,lg,ai n,f,g1,k,h,uS,g]
  cases c1
  ·simp +contextual -implicitDefEqProofs only [go_sem,dJ,dE,dC,dD,bw,dH,dG,dF,ax,jL,jM,jN,jO,aI,eI,eH,e,d,c,fx,cp,a_,hX,lg,ai n,f,g1,k,h,uS,g,B]
  cases c3
  ·simp +contextual -implicitDefEqProofs only [go_sem,dJ,dE,dC,dD,bw,dH,dG,dF,ax,jL,jM,jN,jO,aI,eI,eH,e,d,c,fx,cp,a_,hX,lg,ai n,f,g1,k,h,uS,g,B,g2]
  cases c5
  ·simp +contextual -implicitDefEqProofs only [go_sem,dJ,dE,dC,dD,bw,dH,dG,dF,ax,jL,jM,jN,jO,aI,eI,eH,e,d,c,fx,cp,a_,hX,lg,ai n,f,g1,k,h,uS,g,B,g2,g4]
  cases c2
  ·simp +contextual -implicitDefEqProofs only [go_sem,dJ,dE,dC,dD,bw,dH,dG,dF,ax,jL,jM,jN,jO,aI,eI,eH,e,d,c,fx,cp,a_,hX,lg,ai n,f,g1,k,h,uS,g,B,g2,g4,R]
  cases c4
  ·simp +contextual -implicitDefEqProofs only [go_sem,dJ,dE,dC,dD,bw,dH,dG,dF,ax,jL,jM,jN,jO,aI,eI,eH,e,d,c,fx,cp,a_,hX,lg,ai n,f,g1,k,h,uS,g,B,g2,g4,R,g3]
  cases c6
  ·simp +contextual -implicitDefEqProofs only [go_sem,dJ,dE,dC,dD,bw,dH,dG,dF,ax,jL,jM,jN,jO,aI,eI,eH,e,d,c,fx,cp,a_,hX,lg,ai n,f,g1,k,h,uS,g,B,g2,g4,R,g3,W]
  cases os<;>simp +contextual -implicitDefEqProofs only [go_sem,dJ,dE,dC,dD,bw,dH,dG,dF,ax,jL,jM,jN,jO,aI,eI,eH,e,d,c,fx,cp,a_,hX,lg,ai n,f,g1,k,h,uS,g,B,g2,g4,R,g3,W,N]
 by_cases o:n.aw=3
 ·have h:G 92 [E 3]=Z (0,[.bool I]):=zO 3;have j:pC n=(!(n.bl.isEmpty && n.unique.isEmpty) ||n.cT ||(!Z' (n.min=0) ||!Z' (n.max=0)) ||!n.ae.isEmpty):=by simp[pC,o,H,mc,fG,iq]
  have i:lK ip mt n=(it && (!(n.given && (n.fy ||!n.when.isEmpty)) && (if n.given=I then isVal ip mt n.type n.default else Z' (n.default.size=0)))):=by simp[lK,o,D,C]
  rw[j,i];simp +contextual -implicitDefEqProofs only [go_sem,dJ,dE,dC,dD,bw,dH,dG,dF,ax,jL,jM,jN,jO,aI,eI,eH,e,d,c,fx,cp,a_,hX,lg,ai n,f,g1,o]
  generalize (!(n.bl.isEmpty && n.unique.isEmpty) ||n.cT ||(!Z' (n.min=0) ||!Z' (n.max=0)))=F at *;clear j i;generalize isVal ip mt n.type n.default=iv at *;obtain⟨K,g⟩:∃b,n.ae.isEmpty=b:=⟨_,rfl⟩
  obtain⟨gi,L⟩:∃b,n.given=b:=⟨_,rfl⟩
  obtain⟨ne,Q⟩:∃b,n.fy=b:=⟨_,rfl⟩
  obtain⟨Y,S⟩:∃b,n.when.isEmpty=b:=⟨_,rfl⟩
  rw[g,L,Q,S];cases F
  rotate_left
  ·simp +contextual -implicitDefEqProofs only [go_sem,dJ,dE,dC,dD,bw,dH,dG,dF,ax,jL,jM,jN,jO,aI,eI,eH,e,d,c,fx,cp,a_,hX,lg,ai n,f,g1,o,h]
  cases K
  ·simp +contextual -implicitDefEqProofs only [go_sem,dJ,dE,dC,dD,bw,dH,dG,dF,ax,jL,jM,jN,jO,aI,eI,eH,e,d,c,fx,cp,a_,hX,lg,ai n,f,g1,o,h,g]
  cases it
  ·simp +contextual -implicitDefEqProofs only [go_sem,dJ,dE,dC,dD,bw,dH,dG,dF,ax,jL,jM,jN,jO,aI,eI,eH,e,d,c,fx,cp,a_,hX,lg,ai n,f,g1,o,h,g,r]
  cases gi
  ·simp +contextual -implicitDefEqProofs only [go_sem,dJ,dE,dC,dD,bw,dH,dG,dF,ax,jL,jM,jN,jO,aI,eI,eH,e,d,c,fx,cp,a_,hX,lg,ai n,f,g1,o,h,g,r,L]
  cases ne
  rotate_left
  ·simp +contextual -implicitDefEqProofs only [go_sem,dJ,dE,dC,dD,bw,dH,dG,dF,ax,jL,jM,jN,jO,aI,eI,eH,e,d,c,fx,cp,a_,hX,lg,ai n,f,g1,o,h,g,r,L,Q]
  cases Y
  ·simp +contextual -implicitDefEqProofs only [go_sem,dJ,dE,dC,dD,bw,dH,dG,dF,ax,jL,jM,jN,jO,aI,eI,eH,e,d,c,fx,cp,a_,hX,lg,ai n,f,g1,o,h,g,r,L,Q,S]
  cases iv<;>simp +contextual -implicitDefEqProofs only [go_sem,dJ,dE,dC,dD,bw,dH,dG,dF,ax,jL,jM,jN,jO,aI,eI,eH,e,d,c,fx,cp,a_,hX,lg,ai n,f,g1,o,h,g,r,L,Q,S,X]
 by_cases q:n.aw=4
 ·have h:G 92 [E 4]=Z (0,[.bool I]):=zO 4;rw[q]at N;have j:pC n=(!(n.bl.isEmpty && n.unique.isEmpty) ||(!Z' (n.default.size=0) ||n.given ||n.fixed) ||n.fy ||n.cT ||!n.ae.isEmpty):=by simp[pC,q,H,mc,fG,iq]
  have i:lK ip mt n=(it && os):=by simp[lK,q,D,C]
  rw[j,i];simp +contextual -implicitDefEqProofs only [go_sem,dJ,dE,dC,dD,bw,dH,dG,dF,ax,jL,jM,jN,jO,aI,eI,eH,e,d,c,fx,cp,a_,hX,lg,ai n,f,g1,q]
  generalize (!(n.bl.isEmpty && n.unique.isEmpty) ||(!Z' (n.default.size=0) ||n.given ||n.fixed) ||n.fy ||n.cT)=F at *;clear j i;obtain⟨K,g⟩:∃b,n.ae.isEmpty=b:=⟨_,rfl⟩
  rw[g];cases F
  rotate_left
  ·simp +contextual -implicitDefEqProofs only [go_sem,dJ,dE,dC,dD,bw,dH,dG,dF,ax,jL,jM,jN,jO,aI,eI,eH,e,d,c,fx,cp,a_,hX,lg,ai n,f,g1,q,h]
  cases K
  ·simp +contextual -implicitDefEqProofs only [go_sem,dJ,dE,dC,dD,bw,dH,dG,dF,ax,jL,jM,jN,jO,aI,eI,eH,e,d,c,fx,cp,a_,hX,lg,ai n,f,g1,q,h,g]
  cases it
  ·simp +contextual -implicitDefEqProofs only [go_sem,dJ,dE,dC,dD,bw,dH,dG,dF,ax,jL,jM,jN,jO,aI,eI,eH,e,d,c,fx,cp,a_,hX,lg,ai n,f,g1,q,h,g,r]
  cases os<;>simp +contextual -implicitDefEqProofs only [go_sem,dJ,dE,dC,dD,bw,dH,dG,dF,ax,jL,jM,jN,jO,aI,eI,eH,e,d,c,fx,cp,a_,hX,lg,ai n,f,g1,q,h,g,r,N]
 by_cases y:n.aw=5
 ·have h:G 92 [E 5]=Z (0,[.bool J]):=zO 5;have j:pC n=(!a ||!(n.bl.isEmpty && n.unique.isEmpty) ||(!Z' (n.default.size=0) ||n.given ||n.fixed) ||n.cT ||(!Z' (n.min=0) ||!Z' (n.max=0)) ||!n.iP.isEmpty):=by simp[pC,y,H,mc,fG,iq]
  have i:lK ip mt n=I:=by simp[lK,y,D,C]
  rw[j,i];simp +contextual -implicitDefEqProofs only [go_sem,dJ,dE,dC,dD,bw,dH,dG,dF,ax,jL,jM,jN,jO,aI,eI,eH,e,d,c,fx,cp,a_,hX,lg,ai n,f,g1,y]
  generalize (!a ||!(n.bl.isEmpty && n.unique.isEmpty) ||(!Z' (n.default.size=0) ||n.given ||n.fixed) ||n.cT ||(!Z' (n.min=0) ||!Z' (n.max=0)))=F at *;clear j i;obtain⟨v,g⟩:∃b,n.iP.isEmpty=b:=⟨_,rfl⟩
  rw[g];cases F<;>cases v<;>simp +contextual -implicitDefEqProofs only [go_sem,dJ,dE,dC,dD,bw,dH,dG,dF,ax,jL,jM,jN,jO,aI,eI,eH,e,d,c,fx,cp,a_,hX,lg,ai n,f,g1,y,h,g]
 by_cases x:n.aw=6
 ·have h:G 92 [E 6]=Z (0,[.bool J]):=zO 6;have j:pC n=(!a ||!(n.bl.isEmpty && n.unique.isEmpty) ||(!Z' (n.default.size=0) ||n.given ||n.fixed) ||n.fy ||n.cT ||(!Z' (n.min=0) ||!Z' (n.max=0)) ||!n.iP.isEmpty):=by simp[pC,x,H,mc,fG,iq]
  have i:lK ip mt n=I:=by simp[lK,x,D,C]
  rw[j,i];simp +contextual -implicitDefEqProofs only [go_sem,dJ,dE,dC,dD,bw,dH,dG,dF,ax,jL,jM,jN,jO,aI,eI,eH,e,d,c,fx,cp,a_,hX,lg,ai n,f,g1,x]
  generalize (!a ||!(n.bl.isEmpty && n.unique.isEmpty) ||(!Z' (n.default.size=0) ||n.given ||n.fixed) ||n.fy ||n.cT ||(!Z' (n.min=0) ||!Z' (n.max=0)))=F at *;clear j i;obtain⟨v,g⟩:∃b,n.iP.isEmpty=b:=⟨_,rfl⟩
  rw[g];cases F<;>cases v<;>simp +contextual -implicitDefEqProofs only [go_sem,dJ,dE,dC,dD,bw,dH,dG,dF,ax,jL,jM,jN,jO,aI,eI,eH,e,d,c,fx,cp,a_,hX,lg,ai n,f,g1,x,h,g]
 by_cases w:n.aw=7
 ·have h:G 92 [E 7]=Z (0,[.bool J]):=zO 7;have j:pC n=(!a ||!(n.bl.isEmpty && n.unique.isEmpty) ||(!Z' (n.default.size=0) ||n.given ||n.fixed) ||n.fy ||n.cT ||(!Z' (n.min=0) ||!Z' (n.max=0)) ||!n.iP.isEmpty):=by simp[pC,w,H,mc,fG,iq]
  have i:lK ip mt n=(n.when.isEmpty && n.ae.isEmpty):=by simp[lK,w,D,C]
  rw[j,i];simp +contextual -implicitDefEqProofs only [go_sem,dJ,dE,dC,dD,bw,dH,dG,dF,ax,jL,jM,jN,jO,aI,eI,eH,e,d,c,fx,cp,a_,hX,lg,ai n,f,g1,w]
  generalize (!a ||!(n.bl.isEmpty && n.unique.isEmpty) ||(!Z' (n.default.size=0) ||n.given ||n.fixed) ||n.fy ||n.cT ||(!Z' (n.min=0) ||!Z' (n.max=0)))=F at *;clear j i;obtain⟨v,g⟩:∃b,n.iP.isEmpty=b:=⟨_,rfl⟩
  rw[g];cases F<;>cases v<;>simp +contextual -implicitDefEqProofs only [go_sem,dJ,dE,dC,dD,bw,dH,dG,dF,ax,jL,jM,jN,jO,aI,eI,eH,e,d,c,fx,cp,a_,hX,lg,ai n,f,g1,w,h,g]
 ·have f9:G 92 [E n.aw]=Z (0,[.bool J]):=by rw[h,mc,show fG 1 4 n.aw=J from by rw[eg,Ne,gG];omega]
  have i:lK ip mt n=J:=by simp[lK,A,k,o,q,y,x,w]
  rw[i];simp +contextual -implicitDefEqProofs only [go_sem,dJ,dE,dC,dD,bw,dH,dG,dF,ax,jL,jM,jN,jO,aI,eI,eH,e,d,c,fx,cp,a_,hX,lg,ai n,f,g1,A,k,o,q,y,x,w]
  generalize (!a ||!(n.bl.isEmpty && n.unique.isEmpty) ||(!Z' (n.default.size=0) ||n.given ||n.fixed) ||n.fy ||n.cT ||(!Z' (n.min=0) ||!Z' (n.max=0)))=F at *;obtain⟨v,g⟩:∃b,n.iP.isEmpty=b:=⟨_,rfl⟩
  cases F<;>cases v<;>simp +contextual -implicitDefEqProofs only [go_sem,dJ,dE,dC,dD,bw,dH,dG,dF,ax,jL,jM,jN,jO,aI,eI,eH,e,d,c,fx,cp,a_,hX,lg,ai n,f,g1,A,k,o,q,y,x,w,f9,g]
end
end
section
theorem So{n:ah}{l:M ah}{k:Int}{b:Bool}{cnt i:Nat}(y:fN (aB n)<=mg) :
  bK (lB G AN) (0,[E k,.bool b,az l,E cnt,E (i:Int),aO n.bl,E n.bl.length,E 0]++aB n) =
   Z (if n.bl.all (wB n.ae)=I then (1,[E k,.bool b,az l,E cnt,E (i:Int),aO n.bl,E n.bl.length,E n.bl.length,.bool J]++aB n) else (0,[.bool J])):=by
 have f:=y;rw[dN]at f;have A:n.bl.length<=mg:=by simp only[bQ]at f;omega
 have v:n.ae.length<=mg:=by simp only[bQ]at f;omega
 have h:=lf (b:=lB G AN) n.bl (λj=>(0,[E k,.bool b,az l,E cnt,E (i:Int),aO n.bl,E n.bl.length,E (j:Int)]++aB n)) (wB n.ae)
  (1,[E k,.bool b,az l,E cnt,E (i:Int),aO n.bl,E n.bl.length,E n.bl.length,.bool J]++aB n) (0,[.bool J]) (by
  intro j e m;have o:=bF m;have w:=wj o A;have a:=aja (l:=n.ae) (nm:=e) v;cases d:l8 n.ae e with
  |none=>
   rw[d]at a;simp only[qU,ai,aq,ay]at a;have g:wB n.ae e=J:=by simp only[wB,d,wC]
   simp +contextual -implicitDefEqProofs only [go_sem,dJ,dE,dC,dD,bw,dH,dG,dF,ax,jL,jM,jN,jO,aI,eI,eH,bn,AN,ai n,o,aN,m,fR,a,g]
  |some B=>
   obtain⟨x,c,_⟩:=dy d;rw[d]at a;simp only[c,ai,aq,ay]at a;obtain⟨p,s⟩:∃b,x.when.isEmpty=b:=⟨_,rfl⟩
   obtain⟨t,r⟩:∃b,x.given=b:=⟨_,rfl⟩
   obtain⟨kd,q⟩:∃b,Z' (x.type.aw=6)=b:=⟨_,rfl⟩
   have g:wB n.ae e=(p && (!t && !kd)):=by simp only[wB,d,wC,c,R3,s,r,q]
   rw[g];cases p<;>cases t<;>cases kd<;>simp +contextual -implicitDefEqProofs only [go_sem,dJ,dE,dC,dD,bw,dH,dG,dF,ax,jL,jM,jN,jO,aI,eI,eH,bn,AN,ai n,o,aN,m,fR,a,hX,s,r,q,w]
   ) (by simp +contextual -implicitDefEqProofs only [go_sem,dJ,dE,dC,dD,bw,dH,dG,dF,ax,jL,jM,jN,jO,aI,eI,eH,bn,AN,ai n,aG])
 exact h
theorem Sp{n:ah}{l:M ah}{k:Int}{b:Bool}{cnt i:Nat}(r:fN (aB n)<=mg) :
  bK (lB G AO) (0,[E k,.bool b,az l,E cnt,E (i:Int),aO n.unique,E n.unique.length,E 0]++aB n) =
   Z (if n.unique.all (λa=>(l8 n.ae a).isSome)=I then (1,[E k,.bool b,az l,E cnt,E (i:Int),aO n.unique,E n.unique.length,E n.unique.length,.bool J]++aB n) else (0,[.bool J])):=by
 have d:=r;rw[dN]at d;have s:n.unique.length<=mg:=by simp only[bQ]at d;omega
 have p:n.ae.length<=mg:=by simp only[bQ]at d;omega
 have h:=lf (b:=lB G AO) n.unique (λj=>(0,[E k,.bool b,az l,E cnt,E (i:Int),aO n.unique,E n.unique.length,E (j:Int)]++aB n)) (λa=>(l8 n.ae a).isSome)
  (1,[E k,.bool b,az l,E cnt,E (i:Int),aO n.unique,E n.unique.length,E n.unique.length,.bool J]++aB n) (0,[.bool J]) (by
  intro j e g;have m:=bF g;have q:=wj m s;have c:=aja (l:=n.ae) (nm:=e) p;cases o:l8 n.ae e with
  |none=>
   rw[o]at c;simp only[qU,ai,aq,ay]at c;simp +contextual -implicitDefEqProofs only [go_sem,dJ,dE,dC,dD,bw,dH,dG,dF,ax,jL,jM,jN,jO,aI,eI,eH,bn,AO,ai n,m,aN,g,fR,c,Option.isSome]
  |some t=>
   obtain⟨x,f,_⟩:=dy o;rw[o]at c;simp only[f,ai,aq,ay]at c;simp +contextual -implicitDefEqProofs only [go_sem,dJ,dE,dC,dD,bw,dH,dG,dF,ax,jL,jM,jN,jO,aI,eI,eH,bn,AO,ai n,m,aN,g,fR,c,q,Option.isSome]
   ) (by simp +contextual -implicitDefEqProofs only [go_sem,dJ,dE,dC,dD,bw,dH,dG,dF,ax,jL,jM,jN,jO,aI,eI,eH,bn,AO,ai n,aG])
 exact h
section
variable {ip:z->Bool} {mt:z->z->Bool} (hP:∀s:z,s.size<=mg->G 285 [.str s]=Z (0,[.bool (ip s)])) (hM:∀p s:z,p.size<=mg->s.size<=mg->G 310 [.str p,.str s]=Z (0,[.bool (mt p s)]))
include hP hM
theorem aeQ(m:Nat):∀(l:M ah) (k:Int) (b:Bool),av l < m->bQ aB l<=mg->
  G 315 [az l,E k,.bool b]=Z (0,[.bool (wD ip mt m l k b)]):=by
 induction m with
 |zero=>intro l k b h;omega
 |succ m K=>
  intro l k b Y D;have L:l.length<=mg:=by simp only[bQ]at D;omega
  have v:=lf (b:=lB G ng) l (λi=>(0,[E k,.bool b,az l,E l.length,E (i:Int)])) (λn=>za ip mt n && (!Z' (n.aw=7) && (Z' (Z' (n.aw=6)=Z' (k=5)) && (!(n.given && b) && (n.bl.all (wB n.ae) && (n.unique.all (λa=>(l8 n.ae a).isSome) && wD ip mt m n.ae n.aw (b ||(!n.when.isEmpty ||decide (n.aw=6)))))))))
   (1,[E k,.bool b,az l,E l.length,E l.length,.bool J]) (0,[.bool J]) (by
   intro i n c;have d:=bF c;have o:=wj d L;have Q:=bz c;have B:fN (aB n)<=mg:=by have:=eh aB Q;omega
   have g:=amH hP hM B;have w:=So (n:=n) (l:=l) (k:=k) (b:=b) (cnt:=l.length) (i:=i) B;have A:=Sp (n:=n) (l:=l) (k:=k) (b:=b) (cnt:=l.length) (i:=i) B;have f2:=K n.ae n.aw (b ||!n.when.isEmpty ||decide (n.aw=6)) (by have:=aX Q;have:=ah.ek n;omega) (aL (jI n) B);rw[<- iq b];simp only[ai n,aq,ay]at g w A;clear K hP hM D Y B;generalize za ip mt n=U at *;generalize wD ip mt m n.ae n.aw (b ||!n.when.isEmpty ||decide (n.aw=6))=V at *;generalize n.bl.all (wB n.ae)=W at *;generalize n.unique.all (λa=>(l8 n.ae a).isSome)=T at *;obtain⟨X,f⟩:∃b,Z' (n.aw=7)=b:=⟨_,rfl⟩
   obtain⟨di,j⟩:∃x,Z' (Z' (n.aw=6)=Z' (k=5))=x:=⟨_,rfl⟩
   obtain⟨gb,C⟩:∃x,(n.given && b)=x:=⟨_,rfl⟩
   rw[f,j,C];cases U
   ·simp +contextual -implicitDefEqProofs only [go_sem,dJ,dE,dC,dD,bw,dH,dG,dF,ax,jL,jM,jN,jO,aI,eI,eH,bn,ng,d,o,aN,c,ai n,ba,fx,hX,g,f,j]
   cases X
   rotate_left
   ·simp +contextual -implicitDefEqProofs only [go_sem,dJ,dE,dC,dD,bw,dH,dG,dF,ax,jL,jM,jN,jO,aI,eI,eH,bn,ng,d,o,aN,c,ai n,ba,fx,hX,g,f,j]
   cases di
   ·simp +contextual -implicitDefEqProofs only [go_sem,dJ,dE,dC,dD,bw,dH,dG,dF,ax,jL,jM,jN,jO,aI,eI,eH,bn,ng,d,o,aN,c,ai n,ba,fx,hX,g,f,j]
   cases gb
   rotate_left
   ·simp +contextual -implicitDefEqProofs only [go_sem,dJ,dE,dC,dD,bw,dH,dG,dF,ax,jL,jM,jN,jO,aI,eI,eH,bn,ng,d,o,aN,c,ai n,ba,fx,hX,g,f,j,C]
   cases W
   ·simp only[go_sem,bn,ng,d,o,aN,c,ai n,ba,fx,hX,g,f,j]at w;simp +contextual -implicitDefEqProofs only [go_sem,dJ,dE,dC,dD,bw,dH,dG,dF,ax,jL,jM,jN,jO,aI,eI,eH,bn,ng,d,o,aN,c,ai n,ba,fx,hX,g,f,j,C,w]
   simp only[go_sem,bn,ng,d,o,aN,c,ai n,ba,fx,hX,g,f,j]at w;cases T
   ·simp only[go_sem,bn,ng,d,o,aN,c,ai n,ba,fx,hX,g,f,j]at A;simp +contextual -implicitDefEqProofs only [go_sem,dJ,dE,dC,dD,bw,dH,dG,dF,ax,jL,jM,jN,jO,aI,eI,eH,bn,ng,d,o,aN,c,ai n,ba,fx,hX,g,f,j,C,w,A]
   simp only[go_sem,bn,ng,d,o,aN,c,ai n,ba,fx,hX,g,f,j]at A;cases V<;>simp +contextual -implicitDefEqProofs only [go_sem,dJ,dE,dC,dD,bw,dH,dG,dF,ax,jL,jM,jN,jO,aI,eI,eH,bn,ng,d,o,aN,c,ai n,ba,fx,hX,g,f,j,C,w,A,f2]
   ) (by simp +contextual -implicitDefEqProofs only [go_sem,dJ,dE,dC,dD,bw,dH,dG,dF,ax,jL,jM,jN,jO,aI,eI,eH,bn,ng,aG])
  rw[n0]at v;have c1:=q95 L;have t:=Tg (l:=l.map ah.name_q) (by rw[aj];exact L);have N:(dk l).length<=mg:=by have:=nH (es:=l);simp only[bQ]at this D;omega
  have F:=q94 D;have S:=q95 N;have R:=Tg (l:=(dk l).map ah.name_q) (by rw[aj];exact N);refine dd JA rfl ?_;rw[wD];clear K hP hM;generalize l.all _=a1 at *;generalize sM (l.map ah.name_q)=d1 at *;generalize sM ((dk l).map ah.name_q)=d2 at *;unfold oH;obtain⟨P,r⟩:∃x,Z' (k=5)=x:=⟨_,rfl⟩
  obtain⟨H,q⟩:∃x,Z' (k=6)=x:=⟨_,rfl⟩
  rw[r,q];have y:kE (dk l)=0\/kE (dk l)=1:=by cases dk l<;>simp[kE]
  cases d1
  ·cases P<;>cases H<;>simp +contextual -implicitDefEqProofs only [go_sem,dJ,dE,dC,dD,bw,dH,dG,dF,ax,jL,jM,jN,jO,aI,eI,eH,JA,c1,t,r,q]
  cases P
  rotate_left
  ·cases a1<;>simp only[go_sem,JA,c1,t,r,q]at v<;>cases H<;>simp +contextual -implicitDefEqProofs only [go_sem,dJ,dE,dC,dD,bw,dH,dG,dF,ax,jL,jM,jN,jO,aI,eI,eH,JA,c1,t,r,q,v]
  cases H
  rotate_left
  ·cases a1<;>simp only[go_sem,JA,c1,t,r,q]at v<;>simp +contextual -implicitDefEqProofs only [go_sem,dJ,dE,dC,dD,bw,dH,dG,dF,ax,jL,jM,jN,jO,aI,eI,eH,JA,c1,t,r,q,v]
  cases d2
  ·rcases y with e|e<;>rw[e]at F<;>simp +contextual -implicitDefEqProofs only [go_sem,dJ,dE,dC,dD,bw,dH,dG,dF,ax,jL,jM,jN,jO,aI,eI,eH,JA,c1,t,r,q,F,S,R]
  cases a1<;>simp only[go_sem,JA,c1,t,r,q]at v<;>rcases y with e|e<;>rw[e]at F<;>simp +contextual -implicitDefEqProofs only [go_sem,dJ,dE,dC,dD,bw,dH,dG,dF,ax,jL,jM,jN,jO,aI,eI,eH,JA,c1,t,r,q,F,S,R,v]
theorem amI{l:M ah}(a:bQ aB l<=mg):G 316 [az l]=Z (0,[.bool (tR ip mt l)]):=by
 have b:=amp a;have g:=amq a;have f:=aeQ hP hM (av l+1) l 0 J (aY _) a;have e:Z' ((eA l:Int)<=60)=Z' (eA l<=60):=decide_eq_decide.2 (by omega);have h:Z' ((sO l:Int)<=8)=Z' (sO l<=8):=decide_eq_decide.2 (by omega);clear hP hM;refine dd afj rfl ?_;rw[ZS];generalize wD ip mt (av l+1) l 0 J=k at *;generalize Z' (eA l<=60)=c at *;generalize Z' (sO l<=8)=d at *;cases c
 ·simp +contextual -implicitDefEqProofs only [go_sem,dJ,dE,dC,dD,bw,dH,dG,dF,ax,jL,jM,jN,jO,aI,eI,eH,afj,b,e]
 cases d<;>simp +contextual -implicitDefEqProofs only [go_sem,dJ,dE,dC,dD,bw,dH,dG,dF,ax,jL,jM,jN,jO,aI,eI,eH,afj,b,e,g,h,f]
end
end
section
noncomputable def yM(s:M ah)(l:M aD):Bool:=s6 jX uf (tR jX uf s) s l
theorem vP{s:M ah}{l:M aD}(h:yM s l=I):Rt jX uf (dk s) l:=R0 h
section
variable {s:M ah} (hs:bQ aB s<=mg)
include hs
theorem aiZ{l:M aD}(a:bQ bp l<=mg):G 250 [az s,aZ l]=Z (0,[.bool (yM s l)]):=
 amo (λt _=>aaM t) (λ_ _ _ h=>aaN h) hs a (aiW (λt _=>aaM t) (λ_ _ _ h=>aaN h) hs)
theorem W_{l:M aD}(a:bQ bp l<=mg):G 327 [az s,aZ l]=Z (0,[.bool (yM s l)]):=
 amO (λt _=>ai6 t) (λ_ _ _ h=>ai9 h) hs a (amI (λt _=>ai6 t) (λ_ _ _ h=>ai9 h) hs)
end
end
section
def vm(n:ah)(x:aD)(a:M aD):M aD:=if (!Z' (n.aw=1) ||(n.cT ||!a.isEmpty))=I then [⟨x.name_q,x.bq,a⟩] else []
theorem aaJ{n:ah}{x:aD}{a:M aD}(h:bQ bp a<=bQ bp x.ae):bQ bp (vm n x a)<=fN (bp x)+1:=by
 unfold vm;split
 ·rw[fJ,jJ,jJ];simp only[bQ,aJ,cE,nG]at *;omega
 ·simp[bQ,nG]
theorem Pm{g:aD->M aD}:∀{a:M aD},(∀x∈a,bQ bp (g x)<=fN (bp x)+1)->bQ bp (a.flatMap g)<=bQ bp a
 |[],_=>au _
 |x::a,h=>by
  have d:=h x aU;have c:=Pm (a:=a) λy b=>h y (bk _ b);rw[iL,hY,fJ];omega
theorem W3{n:ah}{x:aD}{a:M aD}:(vm n x a).length<=1:=by unfold vm;split<;>simp
theorem GG{g:aD->M aD}(h:∀x,(g x).length<=1):∀(a:M aD),(a.flatMap g).length<=a.length
 |[]=>au _
 |x::a=>by
  have c:=h x;have b:=GG h a;rw[iL,aR,aE];omega
theorem Rz{a:M aD}{g:aD->M aD}{i:Nat}{x:aD}(b:nth a i=Z x):(a.take (i+1)).flatMap g=(a.take i).flatMap g++g x:=by
 rw[cx a i x b,List.flatMap_append,iL,List.flatMap_nil,aQ]
theorem afR{l:M aD}(h:l.length<=mg)(a v:z)(b:M aD):aK (.app 3 56) [aZ l,.list 3 J [[.str a,.str v,aZ b]]]=Z (aZ (l++[⟨a,v,b⟩])):=by
 have c:=eQ 3 56 J (l.map bp) [[.str a,.str v,aZ b]] (by decide) (by simp only[mg,aj,aE,aJ]at *;omega);rw[c];simp[aZ,aT]
theorem ah4(a v:z)(b:M aD):aK (.mW 3 J) [.str a,.str v,aZ b]=Z (.list 3 J [[.str a,.str v,aZ b]]):=jf 3 _ rfl (by decide)
theorem alZ(a b:z):aK .pl [.str a,.str b]=Z (.bool J):=(rfl)
theorem Wu:aK (.mW 3 J) []=Z (aZ []):=(rfl)
theorem de0:Z' (((0:Nat):Int)=0)=I:=(rfl)
theorem My(n:Nat):Z' (((n+1:Nat):Int)=0)=J:=by simp only[decide_eq_false_iff_not];omega
end
section
structure l6 where
 group:ByteArray
 names:List ByteArray
 act:Int
 N4:Bool
def tO(r:l6):M D:=[.str r.group,aO r.names,.int .i64 r.act,.bool r.N4]
abbrev kg(l:M l6):D:=.list 4 J (l.map tO)
theorem afV{l:M z}(h:l.length<=2147483646)(v:z):aK (.app 1 16) [aO l,.list 1 I [[.str v]]]=Z (aO (l++[v])):=by
 have a:=eQ 1 16 I (l.map fR) [[.str v]] (by decide) (by simp only[aj,aE,aJ];omega);rw[a];simp[aO,fR]
theorem afU{l:M z}(h:l.length<=2147483646):aK (.app 1 16) [.list 1 I [],aO l]=Z (aO l):=eQ 1 16 I [] (l.map fR) (by decide) (by simp only[aj,aJ];omega)
theorem alH:aK (.mW 1 I) []=Z (.list 1 I []):=(rfl)
theorem q98{l:M z}(h:l.length<=2147483646)(v:z):G 98 [aO l,.str v]=Z (0,[aO (l++[v])]):=dd t98 rfl (by simp only[go_sem,t98,alH,afU h,NM,afV h])
def bgS(l w:M z):Bool:=Z' (w=l.take w.length)
def Vz(c b:M z)(a:Int)(r:l6):Bool:=(Z' (r.group=⟨#[]⟩) ||oq c r.group) && ((Z' (r.act=0) ||decide (r.act=a)) && bgS b r.names)
def qT(b:M l6)(d c:M z)(a:Int):Bool:=match nZ (Vz d c a) b 0 with
 |none=>Z' (a=1)
 |some j=>(match nth b j with
  |some r=>r.N4
  |none=>Z' (a=1))
theorem Qx(e:l6)(k:Nat)(a:Bool):aK (.has 4) [.list k a [tO e]]=Z (.bool J):=(rfl)
theorem acS{l:M l6}{i:Nat}{y:l6}(h:nth l i=Z y):aK (.el 4) [kg l,E (i:Int)]=Z (.list 0 J [tO y]):=by
 rw[pT,aN,h];rfl
theorem YX{l w:M z}(h:¬w.length<=l.length):bgS l w=J:=by
 unfold bgS;rw[decide_eq_false_iff_not];intro e;have:=congrArg List.length e;rw[bj]at this;omega
section
variable {rs:M l6} {gs ns:M z} {act:Int} (hr:rs.length<=mg) (hg:gs.length<=mg) (hk:∀r∈rs,r.names.length<=mg)
include hr hg hk
theorem aiJ:G 101 [kg rs,aO gs,aO ns,E act]=Z (0,[.bool (qT rs gs ns act)]):=by
 have h:=pK (b:=lB G DG) rs (λi=>(0,[aO gs,aO ns,E act,kg rs,E rs.length,E (i:Int)])) (Vz gs ns act) (1,[aO gs,aO ns,E act,kg rs,E rs.length,E rs.length,.bool J]) (λi r=>(0,[.bool r.N4])) (by
  intro i r d;have e:=bF d;have m:=wj e hr;have q:=acS d;have n:=q99 (l:=gs) (v:=r.group) hg;have B:=aiI (a:=r.names) (b:=ns.take r.names.length) (hk r (bz d));unfold Vz;generalize oq gs r.group=c at *;obtain⟨k,c1⟩:∃p,Z' (r.group=⟨#[]⟩)=p:=⟨_,rfl⟩
  obtain⟨g,t⟩:∃p,Z' (r.act=0)=p:=⟨_,rfl⟩
  obtain⟨f,s⟩:∃p,Z' (r.act=act)=p:=⟨_,rfl⟩
  by_cases w:r.names.length<=ns.length
  ·have g1:Z' ((r.names.length:Int)<=(ns.length:Int))=I:=by simp only[decide_eq_true_eq];omega
   have g2:aK (.cut I) [aO ns,E 0,E (r.names.length:Int)]=Z (aO (ns.take r.names.length)):=by
    rw[Qv _ _ _ _ (by rw[aj];omega),<- lI]
   unfold bgS;generalize Z' (r.names=ns.take r.names.length)=v at *;cases k<;>cases c<;>cases g<;>cases f<;>cases v<;>simp only[go_sem,bn,DG,e,q,Qx,tO,n,B,m,c1,t,s,g1,g2]
  ·have g1:Z' ((r.names.length:Int)<=(ns.length:Int))=J:=by simp only[decide_eq_false_iff_not];omega
   rw[YX w];cases k<;>cases c<;>cases g<;>cases f<;>simp only[go_sem,bn,DG,e,q,Qx,tO,n,m,c1,t,s,g1]
  ) (by simp only[go_sem,bn,DG,aG])
 rw[n0]at h;refine dd t101 rfl ?_;simp only[go_sem,t101,h];unfold qT;generalize x:nZ _ rs 0=o;cases o with
 |none=>simp only[go_sem]
 |some j=>
  obtain⟨y,A,_⟩:=dy x;simp only[go_sem,A]
theorem aep:G 102 [kg rs,aO gs,aO ns]=Z (0,[.bool (qT rs gs ns 1)]):=dd t102 rfl (by simp only[go_sem,t102,aiJ (ns:=ns) (act:=1) hr hg hk])
def vo(rs:M l6)(gs:M z)(n:ah)(ns:M z):Bool:=n.bl.all (λk=>qT rs gs (ns++[k]) 1) && qT rs gs ns 1
end
end
section
theorem amP{n:ah}{a b:aD}(i:fN (aB n)<=mg)(k:a.ae.length<=mg)(j:b.ae.length<=mg):G 328 (aB n++bp a++bp b)=Z (0,[.bool (BJ n a b)]):=by
 have d:=yO i;have f:=W9 (n:=n) (x:=a) d k;have e:=W9 (n:=n) (x:=b) d j;have l:=aiI (a:=(keyOf n a).1) (b:=(keyOf n b).1) (rY d);simp only[ai,aT,aq,ay]at f e;refine dd aj0 (by rw[ai,aT,aT];rfl) ?_;unfold BJ kV;obtain⟨v2,h⟩:∃v,Z' (n.aw=2)=v:=⟨_,rfl⟩
 obtain⟨v4,g⟩:∃v,Z' (n.aw=4)=v:=⟨_,rfl⟩
 generalize (keyOf n a).1=x at *;generalize (keyOf n b).1=y at *;generalize (keyOf n a).2=c at *;generalize (keyOf n b).2=w at *;cases v2<;>cases v4<;>simp only[go_sem,aj0,ai n,aT,h,g,f,e]
 all_goals cases c<;>cases w<;>simp only[go_sem,l,N6,h,g]
theorem amQ{n:ah}{l:M aD}{x:aD}(q:fN (aB n)<=mg)(r:bQ bp l<=mg)(p:x.ae.length<=mg) :
  G 329 (aB n++[aZ l]++bp x)=Z (0,[E (jG (rV n l x))]):=by
 have B:l.length<=mg:=by simp only[bQ]at r;omega
 have A:=yO q;have h:=pK (b:=lB G AP) l (λi=>(0,[aZ l,E l.length,E (i:Int)]++aB n++bp x)) (λy=>Z' (y.name_q=n.name_q) && (Z' (tV n x y=0) && BJ n x y))
  (1,[aZ l,E l.length,E l.length,.bool J]++aB n++bp x) (λi y=>(0,[E (i:Int)])) (by
  intro i y g;have f:=bF g;have k:=wj f B;have m:=pG g;have c:=(tc r (bz g)).1;have e:=ajc (n:=n) (a:=x) (b:=y) A p c;have d:=amP (n:=n) (a:=x) (b:=y) q p c;simp only[ai,aT,aq,ay]at e d;generalize tV n x y=o at *;generalize BJ n x y=t at *;by_cases c1:y.name_q=n.name_q
  ·rw[c1]at e d;by_cases s:o=0
   ·subst s;cases t<;>simp only[go_sem,bn,AP,ai n,f,m,cR,aT,e,d,N6,k,c1]
   ·simp only[go_sem,bn,AP,ai n,f,m,cR,aT,e,d,N6,k,c1,s]
  ·simp only[go_sem,bn,AP,ai n,f,m,cR,aT,e,d,N6,k,c1]
  ) (by simp only[go_sem,bn,AP,ai n,aT x,aG])
 rw[n0]at h;simp only[ai n,aT x,aq,ay]at h;refine dd aj1 (by rw[ai,aT];rfl) ?_;simp only[go_sem,aj1,ai n,aT x,h];unfold rV;generalize v:nZ _ l 0=o;cases o with
 |none=>simp only[go_sem,jG]
 |some j=>
  obtain⟨y,w,_⟩:=dy v;simp only[go_sem,w,jG]
end
section
theorem Kh:∀{a b c:M UInt8},Op.bytesLess a b=I->Op.bytesLess b c=I->Op.bytesLess a c=I
 |_,[],_,h,_=>by rename_i a c;cases a<;>simp[Op.bytesLess]at h
 |_,_::_,[],_,h=>by simp[Op.bytesLess]at h
 |[],_::_,_::_,_,_=>by simp[Op.bytesLess]
 |x::a,y::b,d::c,f,e=>by
  simp only[Op.bytesLess,dr,decide_eq_true_eq,af,beq_iff_eq]at f e ⊢;rcases f with f|⟨rfl,f⟩
  ·rcases e with e|⟨rfl,e⟩
   ·have a1:x.toNat < y.toNat:=f;have a2:y.toNat < d.toNat:=e;exact .inl (show x.toNat < d.toNat by omega)
   ·exact .inl f
  ·rcases e with e|⟨rfl,e⟩
   ·exact .inl e
   ·exact .inr ⟨rfl,Kh f e⟩
theorem XD{a b c:z}(e:kG a b=I)(d:kG b c=I):kG a c=I:=Kh e d
theorem Eb(a:M z):iK a []=J:=by cases a<;>simp[iK,yU]
theorem Wx(y:z)(b:M z):iK [] (y::b)=I:=by simp[iK,yU]
theorem Hf(x y:z)(a b:M z):iK (x::a) (y::b)=if x=y then iK a b else kG x y:=by
 unfold iK;rw[yU];by_cases h:x=y
 ·subst h;simp[YE]
 ·simp[YE,h]
theorem Ly:∀a:M z,iK a a=J
 |[]=>Eb []
 |x::a=>by rw[Hf,if_pos rfl,Ly a]
theorem Ec:∀{a b c:M z},iK a b=I->iK b c=I->iK a c=I
 |a,[],c,h,_=>by rw[Eb]at h;cases h
 |a,y::b,[],_,h=>by rw[Eb]at h;cases h
 |[],y::b,d::c,_,_=>Wx d c
 |x::a,y::b,d::c,g,f=>by
  rw[Hf]at g f ⊢;by_cases k:x=y
  ·subst k;rw[if_pos rfl]at g;by_cases i:x=d
   ·rw[if_pos i]at f ⊢;exact Ec g f
   ·rw[if_neg i]at f ⊢;exact f
  ·rw[if_neg k]at g;by_cases i:y=d
   ·subst i;rw[if_neg k];exact g
   ·rw[if_neg i]at f;have j:=XD g f;have l:¬x=d:=λe=>by rw[e,Of]at j;cases j
    rw[if_neg l];exact j
theorem Wi{a b:M z}(d:iK a b=J)(c:iK b a=J):a=b:=by
 have h:=I9 a b;rw[d,c]at h;exact of_decide_eq_true h.symm
def FL(d:M ah)(i:Nat):Bool:=match nth d i with
 |some n=>kV n.aw
 |none=>J
def DA(d:M ah)(i:Nat)(x:aD):M z:=match nth d i with
 |some n=>(keyOf n x).1
 |none=>[]
def pg(d:M ah)(x y:aD):Bool:=match dh d x.name_q,dh d y.name_q with
 |some i,Z k=>if (Z' (i=k) && FL d i)=I then iK (DA d i x) (DA d i y) else Z' (i < k)
 |_,_=>J
theorem Rc{d:M ah}{x y a:aD}(c:pg d x y=I)(b:pg d y a=I):pg d x a=I:=by
 unfold pg at *;cases l:dh d x.name_q with
 |none=>simp[l]at c
 |some i=>
  cases f:dh d y.name_q with
  |none=>simp[f]at b
  |some j=>
   cases h:dh d a.name_q with
   |none=>simp[f,h]at b
   |some k=>
    simp only[l,f]at c;simp only[f,h]at b;simp only
    by_cases g:i=j
    ·subst g;by_cases e:i=k
     ·subst e;cases m:FL d i<;>simp[m]at c b ⊢
      exact Ec c b
     ·simp only[e,decide_false,cI,aC,if_false]at b ⊢;exact b
    ·simp only[g,decide_false,cI,aC,if_false,decide_eq_true_eq]at c;by_cases e:j=k
     ·subst e;simp only[g,decide_false,cI,aC,if_false,decide_eq_true_eq];exact c
     ·simp only[e,decide_false,cI,aC,if_false,decide_eq_true_eq]at b;have n:¬i=k:=by omega
      simp only[n,decide_false,cI,aC,if_false,decide_eq_true_eq];omega
def eqv(d:M ah)(x y:aD):Prop:=pg d x y=J/\pg d y x=J
theorem Y_{d:M ah}{x y:aD}{i k:Nat}(b:dh d x.name_q=Z i)(a:dh d y.name_q=Z k):eqv d x y↔i=k/\(FL d i=I->DA d i x=DA d i y):=by
 unfold eqv pg;simp only[b,a];by_cases e:i=k
 ·subst e;cases c:FL d i<;>simp[c]
  constructor
  ·rintro⟨g,f⟩;exact Wi g f
  ·intro h;rw[h,Ly];simp
 ·have j:¬k=i:=λh=>e h.symm;simp only[e,j,decide_false,cI,aC,if_false,decide_eq_false_iff_not,false_and,iff_false];omega
def YR(d:M ah)(l:M aD):Prop:=l.Pairwise λx y=>pg d x y=I
def Okn(nr:ah->aD->Bool)(d:M ah)(x:aD):Prop:=∃k n,dh d x.name_q=Z k/\nth d k=Z n/\nr n x=I
theorem YW{d:M ah}{p e:aD}{a k:Nat}{s:ah}(c:dh d p.name_q=Z a)(f:dh d e.name_q=Z k)(b:nth d k=Z s):sH (Z (p,a)) s k e=pg d p e:=by
 unfold sH pg;simp only[c,f];by_cases h:a=k
 ·subst h;simp only[FL,DA,b]
 ·simp only[h,decide_false,cI,aC,if_false]
theorem K_{nr:ah->aD->Bool}{d:M ah}:∀{l:M aD} {i:Nat} {t:u (aD×Nat)},(∀p k,t=Z (p,k)->dh d p.name_q=Z k)->
  (FE (iI (mj () nr d) i t l)=I↔(∀x∈l,Okn nr d x)/\YR d l/\∀p k,t=Z (p,k)->∀x∈l,pg d p x=I)
 |[],i,t,m=>by simp[iI,FE,YR]
 |e::l,i,t,m=>by
  cases c:dh d e.name_q with
  |none=>
   simp only[iI,mj,c,FE,aC,false_iff]
   rintro⟨h,_⟩
   obtain⟨k,n,b,_⟩:=h e aU;rw[c]at b;cases b
  |some k=>
   cases b:nth d k with
   |none=>
    simp only[iI,mj,c,b,FE,aC,false_iff]
    rintro⟨h,_⟩
    obtain⟨a,n,v,r,_⟩:=h e aU;rw[c]at v;cases v;rw[b]at r;cases r
   |some s=>
    have o:∀p a,t=Z (p,a)->sH t s k e=pg d p e:=λp a h=>by rw[h];exact YW (m p a h) c b
    have y:=K_ (nr:=nr) (l:=l) (i:=i+1) (t:=Z (e,k)) (d:=d) (λp a h=>by cases h;exact c);simp only[iI,mj,c,b];by_cases f:(nr s e && sH t s k e)=I
    ·rw[if_pos f];simp only
     rw[y];simp only[af]at f
     constructor
     ·rintro⟨a1,a2,a3⟩
      refine⟨gC.2 ⟨⟨k,s,c,b,f.1⟩,a1⟩,nA.2 ⟨a3 e k rfl,a2⟩,λp a h=>?_⟩;have g:pg d p e=I:=by rw[<- o p a h];exact f.2
      exact gC.2 ⟨g,λx j=>Rc g (a3 e k rfl x j)⟩
     ·rintro⟨a1,a2,a3⟩
      have a4:=nA.1 a2;exact⟨λx j=>a1 x (bk _ j),a4.2,λp a h=>by cases h;exact a4.1⟩
    ·rw[if_neg f];simp only[FE,aC,false_iff]
     rintro⟨a1,a2,a3⟩
     apply f
     obtain⟨a,n,g,w,A⟩:=a1 e aU;rw[c]at g;cases g;rw[b]at w;cases w;rw[A,cJ];cases t with
     |none=>rfl
     |some q=>
      obtain⟨p,a⟩:=q;rw[o p a rfl];exact a3 p a rfl e aU
theorem vZ{nr:ah->aD->Bool}{d:M ah}{l:M aD}:jg nr d l=I↔(∀x∈l,Okn nr d x)/\YR d l:=by
 unfold jg;rw[K_ (λp k h=>by cases h)];simp
def qX(d:M ah)(l:M aD)(x:aD):M aD:=match l.dropWhile (pg d · x) with
 |y::b=>if pg d x y=I then l.takeWhile (pg d · x)++x::y::b else l
 |[]=>l.takeWhile (pg d · x)++[x]
def al3(d:M ah)(l:M aD)(x:aD):M aD:=l.takeWhile (λy=>!pg d x y)++x::l.dropWhile (λy=>!pg d x y)
end
section
structure gr where
 op:Int
 name_q:ByteArray
 bq:ByteArray
 ae:List gr
def oP:z:=⟨#[]⟩
def lV(s:M ah)(a:z):u ah:=match dh (dk s) a with
 |some k=>nth (dk s) k
 |none=>O
def ND(s:M ah)(a:z):jU:=match dh s a with
 |some k=>(match nth s k with
  |some n=>n.type
  |none=>qU.type)
 |none=>qU.type
def agm(l:M aD):u Nat->M aD
 |some k=>l.eraseIdx k
 |none=>l
def woN(names:M z)(l:M aD):M aD:=l.filter λx=>!oq names x.name_q
section
variable (can:jU->z->u z) (oN:M ah->z->M z)
def abX(s:M ah)(es:M gr)(a:z):u z:=match es.filter λc=>Z' (c.name_q=a) with
 |[c]=>if (Z' (c.op=4) ||decide (c.op=5))=I then O else can (ND s a) c.bq
 |_=>O
def abY(s:M ah)(es:M gr):M z->u (M z)
 |[]=>Z []
 |k::a=>match abX can s es k with
  |none=>O
  |some v=>(abY s es a).map (v::·)
def age(n:ah)(e:gr):Int ⊕ (z×M z):=
 let row:=Z' (n.aw=3) ||decide (n.aw=4)
 if ((!row && !Z' (e.bq=oP)) ||(row && !e.ae.isEmpty))=I then .inl 2
 else if (!fG 1 5 e.op)=I then .inl 3
 else match (if (Z' (n.aw=4) ||(Z' (n.aw=3) && Z' (e.op < 4)))=I then can n.type e.bq else Z oP) with
  |none=>.inl 7
  |some v=>if n.aw=2 then (match abY can n.ae e.ae n.bl with
   |none=>.inl 4
   |some a=>.inr (oP,a)) else .inr (v,[])
section
variable (mk:M ah->M aD->M gr->Int ⊕ M aD) (pt:M ah->M aD->aD->M aD)
def afL(s:M ah)(n:ah)(l:M aD)(e:gr)(v:z):Int ⊕ M aD:=
 if n.aw=1\/n.aw=2 then (match mk n.ae [] e.ae with
  | .inl c=>.inl c
  | .inr a=>if n.aw=1/\n.cT=J/\a=[] then .inr l else .inr (pt (dk s) (woN (oN s n.name_q) l) ⟨n.name_q,v,a⟩))
 else .inr (pt (dk s) (woN (oN s n.name_q) l) ⟨n.name_q,v,[]⟩)
def alK(n:ah)(l:M aD)(e:gr)(v:z)(j:Nat)(y:aD)(new:aD):Int ⊕ M aD:=
 if n.aw=1\/n.aw=2 then (match mk n.ae y.ae e.ae with
  | .inl c=>.inl c
  | .inr a=>if n.aw=1/\n.cT=J/\a=[] then .inr (l.eraseIdx j) else .inr (l.set j ⟨new.name_q,new.bq,a⟩))
 else .inr (l.set j new)
def aio(ix:ah->M aD->z->M z->u Nat)(a:ah->aD->z->aD)(s:M ah)(l:M aD)(e:gr):Int ⊕ M aD:=match lV s e.name_q with
 |none=>.inl 2
 |some n=>match age can n e with
  | .inl c=>.inl c
  | .inr (v,key)=>
   let k:=ix n l v key
   if e.op=3/\k.isSome=I then .inl 5
   else if e.op=4/\k=O then .inl 6
   else if e.op=4\/e.op=5 then .inr (agm l k)
   else if e.op=2 then afL oN mk pt s n (agm l k) e v
   else match k with
    |none=>afL oN mk pt s n l e v
    |some j=>match nth l j with
     |none=>.inr l
     |some y=>alK mk n l e v j y (a n y v)
end
def aly(n:ah)(v:z)(a:M z):aD:=⟨n.name_q,v,(n.bl.zip a).map λp=>⟨p.1,p.2,[]⟩⟩
def acu(one:M ah->M aD->gr->Int ⊕ M aD)(s:M ah):M aD->M gr->Int ⊕ M aD
 |l,[]=>.inr l
 |l,e::es=>match one s l e with
  | .inl c=>.inl c
  | .inr a=>acu one s a es
def Wp:Nat->M ah->M aD->M gr->Int ⊕ M aD
 |0,_,_,_=>.inl 0
 |m+1,s,l,es=>acu (aio can oN (Wp m) qX VP λn y v=>⟨n.name_q,v,y.ae⟩) s l es
def abZ:Nat->M ah->M aD->M gr->Int ⊕ M aD
 |0,_,_,_=>.inl 0
 |m+1,s,l,es=>acu (aio can oN (abZ m) al3 (λn l v a=>rV n l (aly n v a)) λn y v=>if n.aw=3 then ⟨y.name_q,v,y.ae⟩ else y) s l es
end
def Wl:Nat->M ah->M aD->Prop
 |0,_,_=>True
 |m+1,s,l=>(∀x∈l,∃k n,dh (dk s) x.name_q=Z k/\nth (dk s) k=Z n/\((n.aw=1\/n.aw=2)->x.bq=oP/\Wl m n.ae x.ae)/\(n.aw=2->(keyOf n x).2=I))/\YR (dk s) l
def T7(c:M ah->z->M z)(s:M ah)(a:z):Prop:=∃n,lV s a=Z n/\n.aw=3/\ND s a=n.type/\∀b,b≠a->a∉c s b
def Hs(a:M ah->z->M z):Nat->M ah->Prop
 |0,_=>True
 |m+1,s=>∀n∈dk s,(n.aw=2->n.bl.Nodup/\∀k∈n.bl,T7 a n.ae k)/\((n.aw=1\/n.aw=2)->Hs a m n.ae)
theorem ze(x:aD)(l:M aD)(a:z):pd (x::l) a=if x.name_q=a then Z x.bq else pd l a:=by
 unfold pd r7;by_cases h:x.name_q=a
 ·simp[nZ,h,nth]
 ·have d:nZ (λe=>Z' (e.name_q=a)) (x::l) 0=nZ (λe=>Z' (e.name_q=a)) l 1:=by simp[nZ,h]
  rw[d,if_neg h];have c:∀(l:M aD) (k:Nat),nZ (λe=>Z' (e.name_q=a)) l (k+1)=(nZ (λe=>Z' (e.name_q=a)) l k).map (·+1):=by
   intro l
   induction l with
   |nil=>intro k;rfl
   |cons y l b=>
    intro k;simp only[nZ];split
    ·rfl
    ·exact b (k+1)
  rw[c l 0];cases nZ (λe=>Z' (e.name_q=a)) l 0 with
  |none=>rfl
  |some j=>rfl
theorem WC{c:z}:∀(a b:M aD),pd (a++b) c=(pd a c).or (pd b c)
 |[],b=>by simp[pd,r7,nZ]
 |x::a,b=>by
  rw[aq,ze,ze,WC a b]
  split<;>rfl
theorem Qh{a:z}:∀{l:M aD},pd l a=O↔∀x∈l,x.name_q≠a
 |[]=>by simp[pd,r7,nZ]
 |x::l=>by
  rw[ze,gC];by_cases h:x.name_q=a
  ·simp[h]
  ·simp[h,Qh (l:=l)]
end
section
theorem zb{s:M ah}{a:z}{n:ah}(h:lV s a=Z n):∃k,dh (dk s) a=Z k/\nth (dk s) k=Z n/\n.name_q=a/\n∈dk s:=by
 unfold lV at h
 split at h
 ·rename_i k b;obtain⟨e,c,d⟩:=dy b;rw[h]at c;cases c;exact⟨k,b,h,by simpa using d,bz h⟩
 ·cases h
theorem ac4{a:Type}{p:a->Bool}{l:M a}{k:Nat}(h:nZ p l k=O){x:a}(d:x∈l):p x=J:=by
 have c:=uR (p:=p) (l:=l) (k:=k);rw[h]at c;have b:l.any p=J:=c.symm;rw[List.any_eq_false]at b
 simpa using b x d
def VA(n:ah)(v:z)(a:M z)(y:aD):Bool:=Z' (y.name_q=n.name_q) && (!(Z' (n.aw=4) && !Z' (y.bq=v)) && (!Z' (n.aw=2) ||(!iK (keyOf n y).1 a && !iK a (keyOf n y).1)))
theorem PD{n:ah}{v:z}{a:M z}{y:aD}:VA n v a y=I↔y.name_q=n.name_q/\(n.aw=4->y.bq=v)/\(n.aw=2->(keyOf n y).1=a):=by
 unfold VA;rw[I9];by_cases b:n.aw=4
 ·simp[b]
 ·by_cases c:n.aw=2<;>simp[b,c]
section
variable {d:M ah} {n:ah} {k:Nat} (hk:dh d n.name_q=Z k) (hn:nth d k=Z n)
include hk hn
theorem vQ(x:aD):DA d k x=(keyOf n x).1/\FL d k=kV n.aw:=by simp[DA,FL,hn]
theorem Zx{v:z}{a:M z}{x y:aD}(l:x.name_q=n.name_q)(g:n.aw=4->x.bq=v)(j:n.aw=2->(keyOf n x).1=a){i:Nat}(b:dh d y.name_q=Z i):eqv d y x↔VA n v a y=I:=by
 rw[Y_ b (by rw[l];exact hk),PD]
 constructor
 ·rintro⟨rfl,h⟩
  obtain⟨e,a1,a2⟩:=dy b;rw[hn]at a1;cases a1;have f:y.name_q=n.name_q:=by simpa using (of_decide_eq_true a2).symm
  rw[(vQ hk hn y).1,(vQ hk hn x).1,(vQ hk hn x).2]at h;refine⟨f,λe=>?_,λe=>?_⟩
  ·have:=h (by simp[kV,e]);have c:¬n.aw=2:=by omega
   simp only[keyOf,if_neg c,bZ,and_true]at this;rw[this,g e]
  ·rw[h (by simp[kV,e]),j e]
 ·rintro⟨f,a4,a2⟩
  rw[f,hk]at b;cases b;refine⟨rfl,λh=>?_⟩;rw[(vQ hk hn y).2]at h;rw[(vQ hk hn y).1,(vQ hk hn x).1];simp only[kV,dr,decide_eq_true_eq]at h;rcases h with h|h
  ·rw[a2 h,j h]
  ·have c:¬n.aw=2:=by omega
   simp only[keyOf,if_neg c,a4 h,g h]
end
theorem Rb{d:M ah}{x x':aD}(c:x.name_q=x'.name_q)(f:∀i,dh d x.name_q=Z i->FL d i=I->DA d i x=DA d i x')(y:aD):pg d x y=pg d x' y/\pg d y x=pg d y x':=by
 unfold pg;rw[<- c];cases a:dh d x.name_q with
 |none=>exact⟨rfl,by cases dh d y.name_q<;>rfl⟩
 |some i=>
  cases k:dh d y.name_q with
  |none=>exact⟨rfl,rfl⟩
  |some j=>
   simp only
   by_cases e:i=j
   ·subst e;cases b:FL d i
    ·simp
    ·simp[f i a b]
   ·have g:¬j=i:=λh=>e h.symm;simp[e,g]
end
section
section
variable {can:jU->z->u z} {oN:M ah->z->M z} {m:Nat}
def Hm(can:jU->z->u z)(oN:M ah->z->M z)(m:Nat):Prop:=∀s l es,Hs oN m s->Wl m s l->abZ can oN m s l es=Wp can oN m s l es/\
 ∀b,Wp can oN m s l es=.inr b->Wl m s b/\∀a v,T7 oN s a->abX can s es a=Z v->pd b a=Z v
variable (hm:Hm can oN m) {s:M ah} (hs:Hs oN (m+1) s) {e:gr} {n:ah} (TT:lV s e.name_q=Z n) {v:z} {key:M z} (hc:age can n e=.inr (v,key))
include hm hs TT hc
end
end
section
section
variable {can:jU->z->u z} {oN:M ah->z->M z} {m:Nat}
variable (hm:Hm can oN m) {s:M ah} (hs:Hs oN (m+1) s)
include hm hs
end
end
section
theorem XB{s:z}(h:s.size=0):s=oP:=by
 obtain⟨d⟩:=s;have a:d.size=0:=h;rw[Array.eq_empty_of_size_eq_zero a];rfl
def rest(k:Nat):Nat->M ah->M z
 |_,[]=>[]
 |j,e::es=>(if j=k then [] else (dk e.ae).map ah.name_q)++rest k (j+1) es
mutual
def YG(es:List ah)(a:ByteArray):Option (List ByteArray):=match es with
 |[]=>O
 |e::es=>if mc e.aw=I/\e.name_q=a then Z [] else if e.aw=5 then (match WK e.ae a 0 with
  |some (k,out)=>Z (out++rest k 0 e.ae)
  |none=>YG es a) else YG es a
termination_by av es
decreasing_by
 ·exact ah.gI e es
 ·simp only[bo];omega
 ·simp only[bo];omega
def WK(b:List ah)(a:ByteArray)(i:Nat):Option (Nat×List ByteArray):=match b with
 |[]=>O
 |e::es=>match YG e.ae a with
  |some out=>Z (i,out)
  |none=>WK es a (i+1)
termination_by av b
decreasing_by
 ·exact ah.gI e es
 ·simp only[bo];omega
end
def air(s:M ah)(a:z):M z:=(YG s a).getD []
theorem Hq{b:z}:∀{a:M ah} {i k:Nat} {out:M z},WK a b i=Z (k,out)->∃c∈a,YG c.ae b=Z out
 |[],i,k,out,h=>by rw[WK]at h;cases h
 |c::a,i,k,out,h=>by
  rw[WK]at h
  split at h
  ·rename_i o e;cases h;exact⟨c,aU,e⟩
  ·obtain⟨d,g,f⟩:=Hq h;exact⟨d,bk _ g,f⟩
theorem L0{k:Nat}{x:z}:∀{a:M ah} {j:Nat},x∈rest k j a->∃c∈a,x∈(dk c.ae).map ah.name_q
 |c::a,j,h=>by
  rw[rest,aS]at h;rcases h with h|h
  ·split at h
   ·cases h
   ·exact⟨c,aU,h⟩
  ·obtain⟨d,e,b⟩:=L0 h;exact⟨d,bk _ e,b⟩
section
variable {ip:z->Bool} {mt:z->z->Bool}
theorem vR{N:Nat}{l:M ah}{k:Int}{f:Bool}{deep:Nat}(h:qP ip mt N l k f deep=I) :
  (∀x∈l,(Z' (k=5)=Z' (x.aw=6))/\wU ip mt x f=I/\∃a,qP ip mt a x.ae x.aw (sI x f) (deep+1)=I)/\((dk l).map ah.name_q).Nodup:=by
 cases N with
 |zero=>cases h
 |succ a=>
  unfold qP at h;simp only[af]at h;obtain⟨e,d,_⟩:=h;refine⟨λx b=>?_,(nN _).1 d⟩;obtain⟨j,c⟩:=pR b;have:=mm.1 e j x c;simp only[af,decide_eq_true_eq]at this;exact⟨this.2.1,this.2.2.1,a,this.2.2.2⟩
def Vk(ip:z->Bool)(mt:z->z->Bool)(l:M ah):Prop:=∀x∈l,∃N f deep,qP ip mt N x.ae x.aw f deep=I
theorem abz{N:Nat}{l:M ah}{k:Int}{f:Bool}{deep:Nat}(h:qP ip mt N l k f deep=I):Vk ip mt l:=λx b=>by
 obtain⟨_,_,a,c⟩:=(vR h).1 x b;exact⟨a,_,_,c⟩
theorem aar(m:Nat):∀(es:M ah),av es < m->Vk ip mt es->∀{j:z} {out:M z},YG es j=Z out->∀x∈out,∃e∈es,e.aw=5/\x∈(dk e.ae).map ah.name_q:=by
 induction m with
 |zero=>intro es h;omega
 |succ m q=>
  intro es t r j out h x d;cases es with
  |nil=>rw[YG]at h;cases h
  |cons e es=>
   have s:YG es j=Z out->∃i∈e::es,i.aw=5/\x∈(dk i.ae).map ah.name_q:=λh=>by
    obtain⟨i,g,F⟩:=q es (by simp only[bo]at t;omega) (λy l=>r y (bk _ l)) h x d;exact⟨i,bk _ g,F⟩
   rw[YG]at h
   split at h
   ·cases h;cases d
   ·split at h
    ·rename_i w
     split at h
     ·rename_i k o B;cases h;refine⟨e,aU,w,?_⟩;obtain⟨N,f,deep,C⟩:=r e aU;have v:=(vR C).1;have D:∀c∈e.ae,c.aw=6:=λc b=>by
       have:=(v c b).1;rw[w]at this
       simpa using this.symm
      have p:∀c∈e.ae,∀y,y∈(dk c.ae).map ah.name_q->y∈(dk e.ae).map ah.name_q:=λc b y l=>
       ((M_ b (by simp[oH,D c b])).map ah.name_q).subset l
      rcases aS.1 d with d|d
      ·obtain⟨c,b,g⟩:=Hq B;obtain⟨_,_,a,n⟩:=v c b;have A:av c.ae < m:=by
        have a1:=ah.ek c;have a2:=aX b;have a3:=ah.gI e es;simp only[bo]at t a3;omega
       obtain⟨i,K,H,G⟩:=q c.ae A (abz n) g x d;exact p c b x (((M_ K (by simp[oH,H])).map ah.name_q).subset G)
      ·obtain⟨c,b,g⟩:=L0 d;exact p c b x g
     ·exact s h
    ·exact s h
theorem Ih{l:M ah}{x:ah}(a:x∈l){y:ah}(c:y∈uI x):y∈dk l:=by
 induction l with
 |nil=>cases a
 |cons e l b=>
  rw[nb,aS];rcases aP.1 a with rfl|a
  ·exact .inl c
  ·exact .inr (b a)
theorem KE:∀{l:M ah} {x e a b:ah},((dk l).map ah.name_q).Nodup->x∈l->e∈l->x≠e->a∈uI x->b∈uI e->a.name_q≠b.name_q
 |c::l,x,e,a,b,k,o,m,j,f,d=>by
  rw[nb,bR,bG]at k;obtain⟨_,n2,i⟩:=k;rcases aP.1 o with rfl|n
  ·rcases aP.1 m with rfl|g
   ·exact absurd rfl j
   ·exact i _ (ey f) _ (ey (Ih g d))
  ·rcases aP.1 m with rfl|g
   ·exact λh=>i _ (ey d) _ (ey (Ih n f)) h.symm
   ·exact KE n2 n g j f d
theorem Xy{l:M ah}(a:(l.map ah.name_q).Nodup){j:Nat}{x:ah}(h:nth l j=Z x):dh l x.name_q=Z j:=by
 have:=mm.1 ((nN l).2 a) j x h
 simpa using this
theorem adF{N:Nat}{s:M ah}{k:Int}{f:Bool}{deep:Nat}(h:qP ip mt N s k f deep=I){b:z}(a:B3 s b=I):T7 air s b:=by
 unfold B3 wC at a;cases m:dh s b with
 |none=>rw[m]at a;cases a
 |some j=>
  rw[m]at a;simp only at a
  cases d:nth s j with
  |none=>rw[d]at a;cases a
  |some x=>
   rw[d]at a;simp only[af,decide_eq_true_eq]at a;have r:=a.1;obtain⟨L,A,H⟩:=dy m;rw[d]at A;cases A;have c:x.name_q=b:=by simpa using H
   have B:=bz d;have t:=(vR h).2;have l:uI x=[x]:=by simp[uI,mc,fG,r]
   have n:x∈dk s:=Ih B (by rw[l];exact aU);obtain⟨i,w⟩:=pR n;have v:=Xy t w;rw[c]at v;refine⟨x,by simp only[lV,v,w],r,by simp only[ND,m,d],λC P g=>?_⟩;unfold air at g;cases o:YG s C with
   |none=>rw[o]at g;cases g
   |some out=>
    rw[o]at g;obtain⟨e,F,G,p⟩:=aar _ s (aY _) (abz h) o b g;obtain⟨y,D,K⟩:=cm.1 p;have q:uI e=dk e.ae:=by simp[uI,mc,fG,oH,G]
    exact KE t B F (λe=>by rw[e]at r;omega) (by rw[l];exact aU) (by rw[q];exact D) (by rw[c,K])
theorem KG(a:Nat):∀{N:Nat} {s:M ah} {k:Int} {f:Bool} {deep:Nat},av s < a->qP ip mt N s k f deep=I->∀n∈dk s,∃t m r,wU ip mt n m=I/\qP ip mt t n.ae n.aw (sI n m) r=I:=by
 induction a with
 |zero=>intro N s k f deep h;omega
 |succ a o=>
  intro N s k f deep v h;have p:=(vR h).1;have d:∀l:M ah,(∀x∈l,x∈s)->∀n∈dk l,∃x∈s,n∈uI x:=by
   intro l
   induction l with
   |nil=>intro _ n b;rw[sN]at b;cases b
   |cons e l g=>
    intro i n b;rw[nb,aS]at b;rcases b with b|b
    ·exact⟨e,i e aU,b⟩
    ·exact g (λx c=>i x (bk _ c)) n b
  intro n b;obtain⟨x,c,b⟩:=d s (λx c=>c) n b;obtain⟨w,q,K,j⟩:=p x c;unfold uI at b
  split at b
  ·rw[bI]at b;subst b;exact⟨K,f,_,q,j⟩
  ·split at b
   ·refine o ?_ j n b;have a1:=ah.ek x;have a2:=aX c;omega
   ·cases b
end
end
section
theorem gr.DB{x y:gr}(h:y∈x.ae):av y < av x:=by
 have a:=aX h;cases x;simp only[gr.mk.sizeOf_spec];dsimp only at a;omega
theorem gr.ek(x:gr):av x.ae < av x:=by
 cases x;simp only[gr.mk.sizeOf_spec];omega
def uL(x:gr):M D:=[.int .i64 x.op,.str x.name_q,.str x.bq,.list 4 J (x.ae.map λy=>uL y)]
termination_by av x
decreasing_by exact gr.DB (by assumption)
abbrev kc(l:M gr):D:=.list 4 J (l.map uL)
theorem C6(x:gr):uL x=[E x.op,.str x.name_q,.str x.bq,kc x.ae]:=by rw[uL]
theorem acP{l:M gr}{i:Nat}{y:gr}(h:nth l i=Z y):aK (.el 4) [kc l,E (i:Int)]=Z (.list 0 J [uL y]):=by
 rw[pT,aN,h];rfl
theorem Rn(e:gr):(uL e).length=4:=by rw[C6];rfl
theorem aaC(e:gr)(k:Nat)(a:Bool):aK (.has 4) [.list k a [uL e]]=Z (.bool J):=by
 simp only[aK,TM,Rn,au,if_true]
def tZ(op:Int)(x:aD):gr:=⟨op,x.name_q,x.bq,x.ae.map λy=>tZ op y⟩
termination_by av x
decreasing_by exact aD.DB (by assumption)
theorem O8(op:Int)(x:aD):tZ op x=⟨op,x.name_q,x.bq,x.ae.map (tZ op)⟩:=by rw[tZ]
theorem alG:aK (.mW 4 J) []=Z (kc []):=(rfl)
theorem alI(o:Int)(a b:z)(c:M gr):aK (.mW 4 J) [E o,.str a,.str b,kc c]=Z (.list 4 J [[E o,.str a,.str b,kc c]]):=jf 4 _ rfl (by decide)
theorem afQ{l:M gr}(h:l.length<=mg)(o:Int)(a b:z)(c:M gr):aK (.app 4 64) [kc l,.list 4 J [[E o,.str a,.str b,kc c]]]=Z (kc (l++[⟨o,a,b,c⟩])):=by
 have d:=eQ 4 64 J (l.map uL) [[E o,.str a,.str b,kc c]] (by decide) (by simp only[mg,aj,aE,aJ]at *;omega);rw[d];simp[kc,C6]
theorem al0(o:Int)(a b:z):aK .pl [E o,.str a,.str b]=Z (.bool J):=(rfl)
theorem aeX(op:Int)(a:Nat):∀l:M aD,av l < a->bQ bp l<=mg->G 357 [E op,aZ l]=Z (0,[kc (l.map (tZ op))]):=by
 induction a with
 |zero=>intro l h;omega
 |succ a m=>
  intro l r e;have d:l.length<=mg:=by simp only[bQ]at e;omega
  have f:=fM (b:=lB G I4) l (λi t=>(0,[E op,aZ l,E l.length,E (i:Int),kc t])) (λi=>(l.take i).map (tZ op)) (0,[E op,aZ l,E l.length,E l.length,.bool J,kc (l.map (tZ op))]) (by
   intro i x c;have g:=bF c;have n:=wj g d;have p:=pG c;obtain⟨q,j⟩:=tc e (bz c);have o:=m x.ae (by have:=aX (bz c);have:=aD.ek x;omega) j;have g1:=alI op x.name_q x.bq (x.ae.map (tZ op));have g2:=afQ (l:=(l.take i).map (tZ op)) (by simp only[aj,bj];omega) op x.name_q x.bq (x.ae.map (tZ op));have g3:=al0 op x.name_q x.bq;have k:(l.take (i+1)).map (tZ op)=(l.take i).map (tZ op)++[⟨op,x.name_q,x.bq,x.ae.map (tZ op)⟩]:=by rw[cx l i x c,bR,aW,cE,O8 op x]
   rw[k];generalize (l.take i).map (tZ op)=t at *;simp only[go_sem,bn,I4,g,n,p,cR,aT x,o,g1,g2,g3]) (by simp only[go_sem,bn,I4,aG,bN]) l.length 0 (by omega)
  rw[n0,dw,cE]at f;refine dd aj4 rfl ?_;simp only[go_sem,aj4,alG,f]
theorem amS{op:Int}{l:M aD}(a:bQ bp l<=mg):G 357 [E op,aZ l]=Z (0,[kc (l.map (tZ op))]):=aeX op _ l (aY _) a
end
section
theorem alY(a b c:D)(k:Nat)(d:Bool)(es:M (M D))(r:M D):aK .LJ (a::b::c::.list k d es::r)=Z (.bool J):=by simp[aK,cD,D.plain]
theorem aeq{gs ns:M z}(a:gs.length<=mg)(f:ns.length<=mg):G 103 [kg [],aO gs,aO ns]=Z (0,[.bool J]):=by
 have c:=aep (rs:=[]) (gs:=gs) (ns:=ns) (by simp) a (by intro r h;cases h);have b:=aiJ (rs:=[]) (gs:=gs) (ns:=ns) (act:=2) (by simp) a (by intro r h;cases h);have e:qT [] gs ns 1=I:=rfl;have d:qT [] gs ns 2=J:=rfl;rw[e]at c;rw[d]at b;refine dd t103 rfl ?_;simp only[go_sem,t103,c,b]
theorem aer{s:M ah}{f:M z}{e:gr}{es:M gr}{k:Nat}(m:bQ aB s<=mg)(q:f.length<=mg)(g:dh (dk s) e.name_q=Z k) :
  G 107 [az s,kg [],aO f,kc (e::es)]=Z (0,[.bool J]):=by
 have a:=Xd (l:=s) (nm:=e.name_q) m;obtain⟨n,r,v⟩:=dy g;rw[g]at a;simp only[r]at a;have b:=q98 (l:=[]) (by simp) e.name_q;have d:=aeq (ns:=[e.name_q]) q (by simp only[aE,aJ,mg];omega);have t:aK (.el 4) [kc (e::es),E 0]=Z (.list 0 J [uL e]):=acP (l:=e::es) (i:=0) rfl;have o:aK (.mW 1 I) [.str e.name_q]=Z (aO [e.name_q]):=by simp[aK,chunk,cD,D.plain,fR]
 have b:G 98 [.list 1 I [],.str e.name_q]=Z (0,[aO [e.name_q]]):=b;have h:aK .pl [.bool J]=Z (.bool J):=rfl;have j:(0:Int) < ((es.length+1:Nat):Int):=by omega
 have p:bK (lB G NA) (0,[az s,.list 1 I [],kc (e::es),E ((es.length+1:Nat):Int),E 0,kg [],aO f])=Z (0,[.bool J]):=by
  refine aF ?_;rw[ai]at a;simp only[go_sem,bn,NA,j,t,aaC,C6 e,o,a,alY,b,d,h]
 have c:G 106 [kg [],aO f,az s,.list 1 I [],kc (e::es)]=Z (0,[.bool J]):=by
  refine dd t106 rfl ?_;simp only[go_sem,t106,p]
 refine dd t107 rfl ?_;simp only[go_sem,t107,c]
end
section
theorem npN(a b:z)(c:M aD):aK .LJ [.str a,.str b,aZ c]=Z (.bool J):=(rfl)
theorem aaB(k:Nat)(c:Bool)(es:M (M D))(a b:Nat)(h:a<=b)(d:b<=es.length):aK (.cut I) [.list k c es,E (a:Int),E (b:Int)]=Z (.list k c ((es.take b).drop a)):=by
 simp only[aK,dI,cq];rw[if_pos (by omega),if_pos (by omega)];dsimp only;rw[if_pos ⟨h,d⟩]
theorem aeb(k:Nat)(b:Bool)(es:M (M D))(a:Nat)(h:a<=es.length):aK (.v8 k J) [.list k b es,E (a:Int)]=Z (.list k b (es.drop a)):=by
 simp only[aK,dI,cq];rw[if_pos (by omega)];dsimp only;rw[if_pos ⟨trivial,h⟩]
theorem acz{a b:M aD}(h:a.length+b.length<=2147483648):aK (.app 3 56) [aZ a,aZ b]=Z (aZ (a++b)):=by
 rw[eQ 3 56 J _ _ (by decide) (by simpa using h),aZ,bR]
theorem acE{d:M ah}{a b:aD}{i k:Nat}{e:ah}(f:dh d a.name_q=Z i)(c:dh d b.name_q=Z k)(g:nth d i=Z e) :
  pg d a b=(if (Z' (i=k) && kV e.aw)=I then iK (keyOf e a).1 (keyOf e b).1 else Z' (i < k)):=by
 unfold pg FL DA;simp only[f,c,g]
def Kd(d:M ah)(x:aD):Prop:=∃k,dh d x.name_q=Z k
theorem Kd.nth{d:M ah}{x:aD}(h:Kd d x):∃k e,dh d x.name_q=Z k/\nth d k=Z e/\e.name_q=x.name_q:=by
 obtain⟨k,a⟩:=h;obtain⟨e,c,b⟩:=dy a;exact⟨k,e,a,c,by simpa using b⟩
theorem ab5{d:M ah}{a b:aD}(h:bQ aB d<=mg)(l:a.ae.length<=mg)(j:b.ae.length<=mg)(n:Kd d a)(m:Kd d b) :
  G 249 ([az d]++bp a++bp b)=Z (0,[.bool (pg d a b)]):=by
 obtain⟨i,e,g,c,_⟩:=n.nth;obtain⟨k,f⟩:=m;rw[acE g f c];exact aiY (by simp only[bQ]at h;omega) (yO (by have:=eh aB (bz c);omega)) l j g f c
theorem Z6{d:M ah}{l:M aD}{x:aD}(o:bQ aB d<=mg)(g:bQ bp l<=mg)(k:x.ae.length<=mg)(s:∀y∈l,Kd d y)(r:Kd d x):∀m i,i+m=l.length->
  bK (lB G D0) (0,[az d,aZ l,.int .i64 (i:Int)]++bp x)=Z (0,[az d,aZ l,E ((i+((l.drop i).takeWhile (pg d · x)).length:Nat):Int),.bool J]++bp x):=by
 have e:l.length<=mg:=by simp only[bQ]at g;omega
 intro m
 induction m with
 |zero=>
  intro i p;obtain rfl:i=l.length:=by omega
  rw[fC];refine aF ?_;simp only[go_sem,bn,D0,aG,List.takeWhile_nil,aJ,eu,aT x]
 |succ m j=>
  intro i p;have c:i < l.length:=by omega
  have a1:=dV (l:=l) (i:=i) c;have hd:=ig l i _ a1;generalize l[i]'c=y at a1 hd;have n:=wj c e;have h:=pG a1;have f:=ab5 (a:=y) (b:=x) o (tc g (bz a1)).1 k (s y (bz a1)) r;simp only[aT,aq,ay]at f;rw[hd,zI];cases q:pg d y x<;>rw[q]at f
  ·refine aF ?_;simp only[go_sem,bn,D0,c,h,cR,aT,f,aC,if_false,aJ,eu,N6]
  ·rw[if_pos rfl,aE,show i+(((l.drop (i+1)).takeWhile (pg d · x)).length+1)=(i+1)+((l.drop (i+1)).takeWhile (pg d · x)).length by omega,<- j (i+1) (by omega)];refine bB ?_;simp only[go_sem,bn,D0,c,h,cR,aT,f,n,N6]
theorem QW{a:Type}(p:a->Bool):∀l:M a,l.take (l.takeWhile p).length=l.takeWhile p
 |[]=>rfl
 |x::l=>by
  rw[zI];split
  ·simp[QW p l]
  ·rfl
theorem O6{a:Type}(p:a->Bool):∀l:M a,l.drop (l.takeWhile p).length=l.dropWhile p
 |[]=>rfl
 |x::l=>by
  rw[zI,List.dropWhile_cons];split
  ·simp[O6 p l]
  ·rfl
theorem aki{a:Type}(p:a->Bool)(l:M a):(l.takeWhile p).length<=l.length:=(wJ p).length_le
theorem alJ(x:aD):aK (.mW 3 J) [.str x.name_q,.str x.bq,aZ x.ae]=Z (aZ [x]):=by
 rw[ah4];simp[aZ,aT]
theorem aje{d:M ah}{l:M aD}{x:aD}(p:bQ aB d<=mg)(j:bQ bp l<=mg)(o:x.ae.length<=mg)(s:∀y∈l,Kd d y)(r:Kd d x) :
  ∃b,G 351 ([az d,aZ l]++bp x)=Z (0,[aZ (qX d l x),.bool b]):=by
 have q:l.length<=mg:=by simp only[bQ]at j;omega
 have e:=Z6 p j o s r l.length 0 (by omega);rw[n0,cK,bD]at e;simp only[aT,aq,ay]at e;have C:=QW (pg d · x) l;have D:=O6 (pg d · x) l;have g:=aki (pg d · x) l;have c:qX d l x=match l.dropWhile (pg d · x) with
  |y::b=>if pg d x y=I then l.takeWhile (pg d · x)++x::y::b else l
  |[]=>l.takeWhile (pg d · x)++[x]:=rfl
 rw[<- C,<- D]at c;generalize (l.takeWhile (pg d · x)).length=k at *;have c1:=aaB 3 J (l.map bp) 0 k (by omega) (by simpa using g);have n:=aeb 3 J (l.map bp) k (by simpa using g);rw[n0,cK,<- lI]at c1;rw[<- List.map_drop]at n;have A:aK (.app 3 56) [aZ [],aZ (l.take k)]=Z (aZ (l.take k)):=acz (a:=[]) (by simp only[mg,bj,aJ]at *;omega);have w:aK (.app 3 56) [aZ (l.take k),aZ [x]]=Z (aZ (l.take k++[x])):=acz (by simp only[mg,bj,aE,aJ]at *;omega);have v:aK (.app 3 56) [aZ (l.take k++[x]),aZ (l.drop k)]=Z (aZ (l.take k++[x]++l.drop k)):=acz (by simp only[mg,aR,bj,bT,aE,aJ]at *;omega);have g1:=alJ x;have g3:=npN x.name_q x.bq x.ae;rcases dU k l.length with f|f
 ·have a1:=dV (l:=l) (i:=k) f;have hd:=ig l k _ a1;generalize l[k]'f=y at a1 hd;have t:=pG a1;have h:=ab5 (a:=x) (b:=y) p o (tc j (bz a1)).1 r (s y (bz a1));simp only[aT,aq,ay]at h;rw[hd]at c;dsimp only at c;cases B:pg d x y<;>rw[B]at h c
  ·rw[if_neg (by simp)]at c;rw[c];refine⟨J,dd Tq (by rw[aT];rfl) ?_⟩;simp only[go_sem,Tq,aT,e,f,t,cR,h,N6]
  ·rw[if_pos rfl]at c;have:qX d l x=l.take k++[x]++l.drop k:=by rw[c,hd,bE];rfl
   rw[this];refine⟨I,dd Tq (by rw[aT];rfl) ?_⟩;simp only[go_sem,Tq,aT x,aT y,e,f,t,cR,h,N6,c1,n,Wu,A,w,v,g1,g3]
 ·have F:k=l.length:=by omega
  have hd:l.drop k=[]:=eJ f;rw[hd]at c;dsimp only at c;have:qX d l x=l.take k++[x]++l.drop k:=by rw[c,hd,aQ]
  rw[this];have m:¬k < l.length:=by omega
  refine⟨I,dd Tq (by rw[aT];rfl) ?_⟩;simp only[go_sem,Tq,aT x,e,m,N6,c1,n,Wu,A,w,v,g1,g3]
end
section
def xJ(s:M ah)(a:z):u ah:=match dh (dk s) a with
 |some k=>nth (dk s) k
 |none=>O
def k8(a:M l6)(c:M z)(f:ah->aD->M aD)(s:M ah)(b:M z)(x:aD):M aD:=match xJ s x.name_q with
 |some n=>if vo a c n (b++[x.name_q])=I then vm n x (f n x) else []
 |none=>[]
def gp(a:M l6)(b:M z):Nat->M ah->M aD->M z->M aD
 |0,_,_,_=>[]
 |m+1,s,l,ns=>l.flatMap (k8 a b (λn x=>gp a b m n.ae x.ae (ns++[x.name_q])) s ns)
theorem abr{b:M l6}{d:M z}(m:Nat):∀{s:M ah} {l:M aD} {a:M z},bQ bp (gp b d m s l a)<=bQ bp l:=by
 induction m with
 |zero=>intro s l a;simp[gp,bQ,nG]
 |succ m c=>
  intro s l a;refine Pm λx e=>?_;unfold k8;split
  ·split
   ·exact aaJ c
   ·simp[bQ,nG]
  ·simp[bQ,nG]
theorem Tw{a:M l6}{c:M z}{f:ah->aD->M aD}{s:M ah}{b:M z}{x:aD}:(k8 a c f s b x).length<=1:=by
 unfold k8;split
 ·split
  ·exact W3
  ·simp
 ·simp
section
variable {rs:M l6} {gs:M z} (hr:rs.length<=mg) (hg:gs.length<=mg) (hk:∀r∈rs,r.names.length<=mg)
include hr hg hk
def kh(n:ah)(here:M z)(r g a0 a1 a3 a4 a5 d a c b:D)(m:Nat):Nat->Bool->Nat×M D
 |0,v=>(0,[a0,a1,.bool v,a3,a4,a5,aO n.bl,.int .i64 m,.int .i64 ((0:Nat):Int),r,g,d,a,c]++aB n++[b,aO here])
 |k+1,v=>(1,[a0,a1,aO here,.bool v,a3,a4,a5,aO n.bl,.int .i64 m,.int .i64 ((k+1:Nat):Int),r,g,d,a,c]++aB n++[b,aO here])
def kf(n:ah)(here:M z)(r g a0 a1 a3 a4 a5 d a c b:D):Nat->Bool->Nat×M D
 |0,v=>(0,[a0,a1,.bool v,a3,a4,a5,aO n.bl,.int .i64 ((0:Nat):Int),.int .i64 ((0:Nat):Int),.bool J,r,g,d,a,c]++aB n++[b,aO here])
 |k+1,v=>(1,[a0,a1,aO here,.bool v,a3,a4,a5,aO n.bl,.int .i64 ((k+1:Nat):Int),.int .i64 ((k+1:Nat):Int),.bool J,r,g,d,a,c]++aB n++[b,aO here])
theorem ajd{n:ah}{c:M z}(q:fN (aB n)<=mg)(s:c.length<=2147483646)(v:Bool)(a0 a1 a3 a4 a5 l d j g:D) :
  bK (lB G DZ) (kh n c (kg rs) (aO gs) a0 a1 a3 a4 a5 l d j g n.bl.length 0 v)=Z (kf n c (kg rs) (aO gs) a0 a1 a3 a4 a5 l d j g n.bl.length (v && n.bl.all λk=>qT rs gs (c++[k]) 1)):=by
 have y:=yO q;have h:=fM (b:=lB G DZ) n.bl (kh n c (kg rs) (aO gs) a0 a1 a3 a4 a5 l d j g n.bl.length) (λi=>v && (n.bl.take i).all λk=>qT rs gs (c++[k]) 1) (kf n c (kg rs) (aO gs) a0 a1 a3 a4 a5 l d j g n.bl.length (v && n.bl.all λk=>qT rs gs (c++[k]) 1)) (by
  intro i e f;have o:=bF f;have p:=wj o y;have x:=q98 s e;have t:=aep (ns:=c++[e]) hr hg hk;rw[cx _ _ _ f,List.all_append,<- gR,bJ,List.all_nil,ed];generalize (v && (n.bl.take i).all λk=>qT rs gs (c++[k]) 1)=w;generalize qT rs gs (c++[e]) 1=a at *;generalize n.bl.length=m at *;cases i<;>cases w<;>simp only[go_sem,bn,DZ,kh,ai n,o,p,aN,f,fR,x,t,N6]
  ) (by
  rw[bN];generalize (v && n.bl.all λk=>qT rs gs (c++[k]) 1)=w;generalize n.bl.length=m;cases m<;>simp only[go_sem,bn,DZ,kh,kf,ai n,aG]) n.bl.length 0 (by omega)
 rwa [dw,List.all_nil,ed]at h
end
end
section
theorem LH(x:aD):(⟨x.name_q,x.bq,x.ae⟩:aD)=x:=by cases x;rfl
section
variable {ip:z->Bool} {mt:z->z->Bool}
def VS(ip:z->Bool)(mt:z->z->Bool)(s:M ah):Prop:=∃N k f deep,qP ip mt N s k f deep=I
theorem VS.DB{s:M ah}(h:VS ip mt s){n:ah}(a:n∈dk s):VS ip mt n.ae:=by
 obtain⟨N,k,f,deep,h⟩:=h;obtain⟨c,d,e,_,b⟩:=KG _ (aY _) h n a;exact⟨c,_,_,_,b⟩
theorem VS.body{s:M ah}(h:VS ip mt s){n:ah}(b:n∈dk s):∃f,jV ip mt n f=I:=by
 obtain⟨N,k,f,deep,h⟩:=h;obtain⟨e,c,d,a,_⟩:=KG _ (aY _) h n b;unfold wU at a;simp only[af]at a;exact⟨c,a.2⟩
theorem V9{s:M ah}(h:VS ip mt s){n:ah}(c:n∈dk s)(o:n.aw=2){k:z}(m:k∈n.bl):∃leaf,lV n.ae k=Z leaf/\leaf.aw=3/\leaf.bl=[]:=by
 have l:=h.DB c;obtain⟨f,b⟩:=h.body c;obtain⟨N,j,p,deep,i⟩:=l;unfold jV at b;rw[if_neg (by omega),if_pos o]at b;unfold Ee at b;simp only[af]at b;obtain⟨leaf,e,d,_,_⟩:=adF i (bg.1 b.1 k m);refine⟨leaf,e,d,?_⟩;obtain⟨_,_,_,_,q⟩:=zb e;obtain⟨g,a⟩:=VS.body ⟨N,j,p,deep,i⟩ q;unfold jV at a;rw[if_neg (by omega),if_neg (by omega),if_pos d]at a
 split at a
 ·unfold yQ at a;simp only[af,ui]at a;exact a.1.1
 ·unfold yQ at a;simp only[af,ui]at a;exact a.1.1
theorem NP{r:M ah->M aD->Bool}{n:ah}{x:aD}:r8 ip mt r n x=I↔((n.aw=3\/n.aw=4)/\x.ae=[]/\isVal ip mt n.type x.bq=I)\/(n.aw=2/\(keyOf n x).2=I/\x.bq=oP/\r (dk n.ae) x.ae=I)\/
  (n.aw≠2/\n.aw≠3/\n.aw≠4/\x.bq=oP/\(n.cT=I\/x.ae≠[])/\r (dk n.ae) x.ae=I):=by
 have a:x.bq.size=0↔x.bq=oP:=⟨XB,λh=>by rw[h];rfl⟩
 unfold r8;by_cases c:n.aw=3
 ·simp[c]
 ·by_cases b:n.aw=4
  ·simp[b]
  ·by_cases d:n.aw=2
   ·simp[d,a]
   ·simp[d,c,b,a,mK]
theorem Th (K : Nat) : ∀ {N : Nat} {n : ah} {x : aD}, av x <= K -> jR ip mt N n x = I -> jR ip mt K n x = I := by
  induction K with
  | zero => intro N n x h; have : 0 < av x := by cases x; simp only [aD.mk.sizeOf_spec]; omega
            omega
  | succ K m =>
    intro N n x r h
    cases N with
    | zero => cases h
    | succ N =>
      have s := aD.ek x
      have j : jg (jR ip mt N) (dk n.ae) x.ae = I -> jg (jR ip mt K) (dk n.ae) x.ae = I := by
        intro h
        rw [vZ] at h ⊢
        refine ⟨λy i => ?_, h.2⟩
        obtain ⟨k, l, q, p, o⟩ := h.1 y i
        exact ⟨k, l, q, p, m (by have := aX i; omega) o⟩
      have g : r8 ip mt (jg (jR ip mt N)) n x = I := h
      show r8 ip mt (jg (jR ip mt K)) n x = I
      rw [NP] at g ⊢
      rcases g with g | ⟨a, b, c, d⟩ | ⟨a, b, c, d, e, f⟩
      · exact .inl g
      · exact .inr (.inl ⟨a, b, c, j d⟩)
      · exact .inr (.inr ⟨a, b, c, d, e, j f⟩)
theorem aby{s:M ah}{l:M aD}(h:Rt ip mt (dk s) l){K:Nat}(f:av l<=K):jg (jR ip mt K) (dk s) l=I:=by
 obtain⟨N,h⟩:=h;rw[vZ]at h ⊢;refine⟨λy a=>?_,h.2⟩;obtain⟨k,b,e,d,c⟩:=h.1 y a;exact⟨k,b,e,d,Th K (by have:=aX a;omega) c⟩
theorem acr{s:M ah}{l:M aD}(h:Rt ip mt (dk s) l):YR (dk s) l:=by
 obtain⟨N,h⟩:=h;rw[vZ]at h;exact h.2
theorem yf{s:M ah}{l:M aD}(h:Rt ip mt (dk s) l){x:aD}(c:x∈l):∃k n,dh (dk s) x.name_q=Z k/\nth (dk s) k=Z n/\n∈dk s/\lV s x.name_q=Z n/\n.name_q=x.name_q/\Rt ip mt (dk n.ae) x.ae/\∃N,r8 ip mt (jg (jR ip mt N)) n x=I:=by
 obtain⟨N,h⟩:=h;obtain⟨k,n,b,a,d⟩:=A_ h x c;have e:lV s x.name_q=Z n:=by simp only[lV,b,a]
 obtain⟨_,_,_,g,f⟩:=zb e;obtain⟨j,i,g1,g2,_,g4⟩:=xd ⟨N,h⟩ c;rw[b]at g1;cases g1;rw[a]at g2;cases g2;cases N with
 |zero=>cases d
 |succ N=>exact⟨k,n,b,a,f,e,g,g4,N,d⟩
def acg(d:M ah)(x y:aD):Prop:=∀w,pg d y w=pg d x w/\pg d w y=pg d w x
theorem K6{d:M ah}{g:aD->M aD}:∀{l:M aD},YR d l->(∀x∈l,g x=[]\/∃y,g x=[y]/\acg d x y)->YR d (l.flatMap g)
 |[],_,_=>List.Pairwise.nil
 |x::l,n,f=>by
  have k:=nA.1 n;have j:=K6 (l:=l) k.2 λa c=>f a (bk _ c);rw[iL];rcases f x aU with h|⟨y,h,m⟩
  ·rw[h];exact j
  ·rw[h];refine nA.2 ⟨λw b=>?_,j⟩;obtain⟨a,c,b⟩:=List.mem_flatMap.1 b;rcases f a (bk _ c) with i|⟨o,i,e⟩
   ·rw[i]at b;cases b
   ·rw[i,bI]at b;subst b;rw[(m w).1,(e x).2];exact k.1 a c
theorem QS{d:M ah}:∀{l:M aD} {x b:aD},YR d l->x∈l->b∈l->eqv d b x->b=x
 |a::l,x,b,j,i,f,e=>by
  have h:=nA.1 j;rcases aP.1 i with rfl|g
  ·rcases aP.1 f with rfl|c
   ·rfl
   ·have:=h.1 b c;rw[e.2]at this;cases this
  ·rcases aP.1 f with rfl|c
   ·have:=h.1 x g;rw[e.1]at this;cases this
   ·exact QS (l:=l) h.2 g c e
theorem Al{g:aD->M aD}:∀{l:M aD},(∀x∈l,g x=[x])->l.flatMap g=l
 |[],_=>rfl
 |x::l,h=>by
  rw[iL,h x aU,Al λy a=>h y (bk _ a)];rfl
theorem Pl{g:aD->M aD}:∀{l:M aD},(∀x∈l,ez (g x)<=1+ez x.ae)->ez (l.flatMap g)<=ez l
 |[],_=>au _
 |x::l,h=>by
  have i:=h x aU;have f:=Pl (l:=l) λy d=>h y (bk _ d);have e:∀a b:M aD,ez (a++b)=ez a+ez b:=by
   intro a b
   induction a with
   |nil=>simp[ez]
   |cons y a c=>rw[aq,ez,ez,c];omega
  rw[iL,e,ez];omega
theorem Dz{l a:M aD}:∀{ks t:M z},(∀k∈ks,pd l k=pd a k)->s_ l t ks=s_ a t ks
 |[],_,_=>rfl
 |k::ks,t,h=>by
  have c:=h k aU;simp only[s_,c];cases pd a k with
  |none=>rfl
  |some v=>exact Dz (ks:=ks) λk b=>h k (bk _ b)
theorem Xw{s:M ah}{l:M aD}(h:YR (dk s) l){n:ah}{k:Nat}(o:dh (dk s) n.name_q=Z k)(g:nth (dk s) k=Z n){x:aD}(d:x∈l)(b:x.name_q=n.name_q)(m:∀y∈l,∃i,dh (dk s) y.name_q=Z i) :
  ∃j,VP n l x.bq (keyOf n x).1=Z j/\nth l j=Z x:=by
 have p:VP n l x.bq (keyOf n x).1=nZ (VA n x.bq (keyOf n x).1) l 0:=rfl;rw[p];cases e:nZ (VA n x.bq (keyOf n x).1) l 0 with
 |none=>
  have:=ac4 e d;rw[PD.2 ⟨b,λ_=>rfl,λ_=>rfl⟩]at this;cases this
 |some j=>
  obtain⟨a,c,r⟩:=dy e;obtain⟨i,f⟩:=m a (bz c);have q:=(Zx o g b (λ_=>rfl) (λ_=>rfl) f).2 r;rw[QS h d (bz c) q]at c;exact⟨j,rfl,c⟩
section
variable {rs:M l6} {gs:M z}
theorem tF(n:ah)(x:aD)(a:M aD):(vm n x a=[⟨x.name_q,x.bq,a⟩]/\(n.aw≠1\/n.cT=I\/a≠[]))\/(vm n x a=[]/\n.aw=1/\n.cT=J/\a=[]):=by
 unfold vm;by_cases b:n.aw=1
 ·cases c:n.cT<;>cases a<;>simp[b]
 ·simp[b]
theorem BS{f:ah->aD->M aD}{s:M ah}{ns:M z}{x:aD}{n:ah}(b:lV s x.name_q=Z n):k8 rs gs f s ns x=[]\/(k8 rs gs f s ns x=[⟨x.name_q,x.bq,f n x⟩]/\vo rs gs n (ns++[x.name_q])=I/\(n.aw≠1\/n.cT=I\/f n x≠[])):=by
 have d:xJ s x.name_q=Z n:=b;unfold k8;rw[d];dsimp only;split
 ·rename_i h;rcases tF n x (f n x) with ⟨a,c⟩|⟨a,_⟩
  ·exact .inr ⟨a,h,c⟩
  ·exact .inl a
 ·exact .inl rfl
theorem HI{f:ah->aD->M aD}{s:M ah}{b:M z}{k:z}{leaf:ah}(g:lV s k=Z leaf)(i:leaf.aw=3)(h:leaf.bl=[])(e:qT rs gs (b++[k]) 1=I) :
  ∀{l:M aD},pd (l.flatMap (k8 rs gs f s b)) k=pd l k
 |[]=>rfl
 |x::l=>by
  rw[iL,WC,ze,HI g i h e (l:=l)];by_cases c:x.name_q=k
  ·rw[if_pos c];subst c;have m:xJ s x.name_q=Z leaf:=g;have j:vo rs gs leaf (b++[x.name_q])=I:=by simp[vo,h,e]
   have:k8 rs gs f s b x=[⟨x.name_q,x.bq,f leaf x⟩]:=by
    unfold k8;rw[m];simp[j,vm,i]
   rw[this,ze,if_pos rfl];rfl
  ·rw[if_neg c];have:pd (k8 rs gs f s b x) k=O:=by
    rw[Qh];intro y a;unfold k8 at a
    split at a
    ·split at a
     ·rename_i n _ _;rcases tF n x (f n x) with ⟨d,_⟩|⟨d,_⟩
      ·rw[d,bI]at a;rw[a];exact c
      ·rw[d]at a;cases a
     ·cases a
    ·cases a
   rw[this];rfl
theorem X5{m:Nat}{s:M ah}(c:VS ip mt s){n:ah}(d:n∈dk s){x:aD}{own:M z}(a:vo rs gs n own=I) :
  keyOf n ⟨x.name_q,x.bq,gp rs gs (m+1) n.ae x.ae own⟩=keyOf n x:=by
 unfold keyOf;split
 ·rename_i e;have:s_ (gp rs gs (m+1) n.ae x.ae own) [] n.bl=s_ x.ae [] n.bl:=Dz λk b=>by
   obtain⟨leaf,h,g,f⟩:=V9 c d e b;unfold vo at a;simp only[af,bg]at a;exact HI h g f (a.1 k b)
  dsimp only;rw[this]
 ·rfl
theorem abq(c:Nat):∀(s:M ah) (l:M aD) (ns:M z),av l < c->VS ip mt s->Rt ip mt (dk s) l->
  Rt ip mt (dk s) (gp rs gs c s l ns)/\ez (gp rs gs c s l ns)<=ez l/\(∀K,av (gp rs gs c s l ns) < K->gp rs gs K s (gp rs gs c s l ns) ns=gp rs gs c s l ns/\qA TV K s (gp rs gs c s l ns) l=I):=by
 induction c with
 |zero=>intro s l ns h;omega
 |succ c Y=>
  intro s l ns hz T U;have hM:∀x∈l,∃m,c=m+1:=λx e=>by
   have:=aX e;exact⟨c - 1,by omega⟩
  have L:=acr U;have e0:gp rs gs (c+1) s l ns=l.flatMap (k8 rs gs (λn x=>gp rs gs c n.ae x.ae (ns++[x.name_q])) s ns):=rfl;have t:∀x∈l,∀y∈k8 rs gs (λn x=>gp rs gs c n.ae x.ae (ns++[x.name_q])) s ns x,∃k n,dh (dk s) x.name_q=Z k/\nth (dk s) k=Z n/\n∈dk s/\lV s x.name_q=Z n/\n.name_q=x.name_q/\
    y=⟨x.name_q,x.bq,gp rs gs c n.ae x.ae (ns++[x.name_q])⟩/\vo rs gs n (ns++[x.name_q])=I/\(n.aw≠1\/n.cT=I\/y.ae≠[])/\keyOf n y=keyOf n x/\Rt ip mt (dk n.ae) x.ae/\av x.ae < c/\∃N,r8 ip mt (jg (jR ip mt N)) n x=I:=by
   intro x e y d;obtain⟨k,n,C,B,r,A,F,q,G⟩:=yf U e;obtain⟨m,rfl⟩:=hM x e;rcases BS (rs:=rs) (gs:=gs) (f:=λn x=>gp rs gs (m+1) n.ae x.ae (ns++[x.name_q])) (ns:=ns) A with h|⟨h,g1,g2⟩
   ·rw[h]at d;cases d
   ·rw[h,bI]at d;subst d;exact⟨k,n,C,B,r,A,F,rfl,g1,g2,X5 T r g1,q,by have:=aX e;have:=aD.ek x;omega,G⟩
  have P:∀x∈l,k8 rs gs (λn x=>gp rs gs c n.ae x.ae (ns++[x.name_q])) s ns x=[]\/∃y,k8 rs gs (λn x=>gp rs gs c n.ae x.ae (ns++[x.name_q])) s ns x=[y]/\acg (dk s) x y:=by
   intro x e;obtain⟨k,n,C,B,r,A,F,q,G⟩:=yf U e;rcases BS (rs:=rs) (gs:=gs) (f:=λn x=>gp rs gs c n.ae x.ae (ns++[x.name_q])) (ns:=ns) A with h|⟨h,g1,g2⟩
   ·exact .inl h
   ·refine .inr ⟨_,h,?_⟩;obtain⟨k',n',a1,a2,a3,a4,a5,a6,a7,a8,a9,_⟩:=t x e _ (by rw[h];exact bI.2 rfl);rw[A]at a4;cases a4;intro w;refine Rb (x:=⟨x.name_q,x.bq,gp rs gs c n.ae x.ae (ns++[x.name_q])⟩) (x':=x) rfl (λi hi hr=>?_) w;have uU:dh (dk s) x.name_q=Z i:=hi;rw[C]at uU;cases uU;simp only[DA,B];rw[a9]
  have sR:∀y∈gp rs gs (c+1) s l ns,∃x∈l,y∈k8 rs gs (λn x=>gp rs gs c n.ae x.ae (ns++[x.name_q])) s ns x:=λy d=>List.mem_flatMap.1 d;refine⟨?_,?_,λK hK=>?_⟩
  ·refine⟨av (gp rs gs (c+1) s l ns),?_⟩;rw[vZ];refine⟨λy d=>?_,K6 L P⟩;obtain⟨x,e,D⟩:=sR y d;obtain⟨k,n,C,B,r,A,F,q,G,o,V,R,Q,N,JS⟩:=t x e y D;have mR:=aX d;refine⟨k,n,by rw[q];exact C,B,?_⟩;obtain⟨S,i2,i3⟩:=Y n.ae x.ae (ns++[x.name_q]) Q (T.DB r) R;have v:y.ae=gp rs gs c n.ae x.ae (ns++[x.name_q]):=by rw[q]
   rw[<- v]at S;have Yz:=aD.ek y;generalize av (gp rs gs (c+1) s l ns)=b at *;cases b with
   |zero=>omega
   |succ b=>
    show r8 ip mt (jg (jR ip mt b)) n y=I;have H:jg (jR ip mt b) (dk n.ae) y.ae=I:=aby S (by omega);have p:y.bq=x.bq:=by rw[q]
    rw[NP]at JS ⊢;rcases JS with ⟨a1,a2,a3⟩|⟨a1,a2,a3,a4⟩|⟨a1,a2,a3,a4,a5,a6⟩
    ·refine .inl ⟨a1,?_,by rw[p];exact a3⟩;rw[v,a2];cases c<;>rfl
    ·exact .inr (.inl ⟨a1,by rw[V];exact a2,by rw[p];exact a3,H⟩)
    ·refine .inr (.inr ⟨a1,a2,a3,by rw[p];exact a4,?_,H⟩);rcases o with o|o|o
     ·have:=KJ (Ii _ s (aY _) n r);omega
     ·exact .inl o
     ·exact .inr o
  ·refine Pl λx e=>?_;rcases P x e with h|⟨y,h,_⟩
   ·rw[h];simp[ez]
   ·obtain⟨k,n,C,B,r,A,F,q,G,o,V,R,Q,_⟩:=t x e y (by rw[h];exact bI.2 rfl);obtain⟨S,i2,i3⟩:=Y n.ae x.ae (ns++[x.name_q]) Q (T.DB r) R;rw[h,ez,ez,q];dsimp only;omega
  ·cases K with
   |zero=>omega
   |succ K=>
    have jY:∀y∈gp rs gs (c+1) s l ns,k8 rs gs (λn x=>gp rs gs K n.ae x.ae (ns++[x.name_q])) s ns y=[y]/\(match pS TV s l y with
      |some (n,a)=>qA TV K n.ae y.ae a.ae
      |none=>J)=I:=by
     intro y d;obtain⟨x,e,D⟩:=sR y d;obtain⟨k,n,C,B,r,A,F,q,G,o,V,R,Q,_⟩:=t x e y D;obtain⟨S,i2,i3⟩:=Y n.ae x.ae (ns++[x.name_q]) Q (T.DB r) R;have v:y.ae=gp rs gs c n.ae x.ae (ns++[x.name_q]):=by rw[q]
     have VM:y.name_q=x.name_q:=by rw[q]
     have p:y.bq=x.bq:=by rw[q]
     rw[<- v]at i3;obtain⟨j1,j2⟩:=i3 K (by have:=aX d;have:=aD.ek y;omega)
     constructor
     ·have Nl:xJ s y.name_q=Z n:=by rw[VM];exact A
      unfold k8;rw[Nl];dsimp only;rw[VM,if_pos G,j1];rcases tF n y y.ae with ⟨g,_⟩|⟨_,g1,g2,g3⟩
      ·rw[g,LH]
      ·rcases o with o|o|o
       ·exact absurd g1 o
       ·rw[g2]at o;cases o
       ·exact absurd g3 o
     ·obtain⟨j,X,W⟩:=Xw L (by rw[F];exact C) B e F.symm (λa hz=>by obtain⟨i,_,g,_⟩:=yf U hz;exact⟨i,g⟩);have hix:TV n l y=Z j:=by
       unfold TV;rw[p,V];exact X
      have hp:pS TV s l y=Z (n,x):=by
       unfold pS;rw[VM];simp only[C,B,hix,W,p];simp
      rw[hp];exact j2
    constructor
    ·exact Al λy d=>(jY y d).1
    ·show (gp rs gs (c+1) s l ns).all _=I;rw[bg];exact λy d=>(jY y d).2
theorem Mk(c:∀b,qT rs gs b 1=I)(a:Nat):∀(s:M ah) (l:M aD) (b:M z),av l < a->Rt ip mt (dk s) l->gp rs gs a s l b=l:=by
 induction a with
 |zero=>intro s l b h;omega
 |succ a f=>
  intro s l b q j;refine Al λx d=>?_;obtain⟨k,n,w,v,t,o,r,m,N,e⟩:=yf j d;have p:xJ s x.name_q=Z n:=o;have i:vo rs gs n (b++[x.name_q])=I:=by
   unfold vo;rw[c];simp[c]
  unfold k8;rw[p];dsimp only;rw[if_pos i,f n.ae x.ae (b++[x.name_q]) (by have:=aX d;have:=aD.ek x;omega) m];rcases tF n x x.ae with ⟨g,_⟩|⟨_,g1,g2,g3⟩
  ·rw[g,LH]
  ·rw[NP]at e;rcases e with ⟨a1,_⟩|⟨a1,_⟩|⟨_,_,_,_,a5,_⟩
   ·omega
   ·omega
   ·rcases a5 with a5|a5
    ·rw[g2]at a5;cases a5
    ·exact absurd g3 a5
theorem Tx(c:∀b,qT rs gs b 1=J)(a:Nat)(s:M ah)(l:M aD)(b:M z):gp rs gs a s l b=[]:=by
 cases a with
 |zero=>rfl
 |succ a=>
  show l.flatMap _=[];rw[List.flatMap_eq_nil_iff];intro x _;unfold k8;split
  ·rw[if_neg (by unfold vo;rw[c];simp)]
  ·rfl
end
end
end
section
noncomputable def sr(a:M l6)(b:M z)(s:M ah)(l:M aD):M aD×Bool:=if yM s l=I then (gp a b (av l+1) s l [],I) else ([],J)
section
variable {rs:M l6} {gs:M z} (hr:rs.length<=mg) (hg:gs.length<=mg) (hk:∀r∈rs,r.names.length<=mg)
include hr hg hk
theorem aeW(d:Nat):∀(s:M ah) (l:M aD) (ns:M z),av l < d->bQ aB s<=mg->bQ bp l<=mg->ns.length+bQ bp l<=2 * mg->Rt jX uf (dk s) l->
  G 342 [kg rs,aO gs,az s,aZ l,aO ns]=Z (0,[aZ (gp rs gs d s l ns)]):=by
 induction d with
 |zero=>intro s l ns h;omega
 |succ d V=>
  intro s l ns hz X R Y hR;have A:l.length<=mg:=by simp only[bQ]at R;omega
  have hdk:=nH (es:=s);have Q:=fM (b:=lB G u0) l (λi t=>(0,[az s,aO ns,aZ l,E l.length,E (i:Int),kg rs,aO gs,aZ t])) (λi=>(l.take i).flatMap (k8 rs gs (λn x=>gp rs gs d n.ae x.ae (ns++[x.name_q])) s ns)) (0,[az s,aO ns,aZ l,E l.length,E l.length,.bool J,kg rs,aO gs,aZ (l.flatMap (k8 rs gs (λn x=>gp rs gs d n.ae x.ae (ns++[x.name_q])) s ns))]) (by
   intro i x o;have w:=bF o;have y:=wj w A;have H:=pG o;obtain⟨k,n,S,P,_,h4⟩:=xd hR (bz o);have j:=Xd (l:=s) (nm:=x.name_q) X;rw[S]at j;simp only[P,aO,aW,cE,fR]at j;have T:fN (aB n)<=mg:=by have:=eh aB (bz P);omega
   have N:bQ aB n.ae<=mg:=aL (jI n) T;obtain⟨x1,U⟩:=tc R (bz o);have x3:=eh bp (bz o);have x4:=yZ x;have RJ:(ns++[x.name_q]).length<=2147483646:=by simp only[mg,aR,aE,aJ]at *;omega
   have F:=q98 (l:=ns) (by simp only[mg]at *;omega) x.name_q;have C:=aep (ns:=ns++[x.name_q]) hr hg hk;have W:=aL (GG (g:=k8 rs gs (λn x=>gp rs gs d n.ae x.ae (ns++[x.name_q])) s ns) (λx=>Tw) (l.take i)) (aL (List.length_take_le' _ _) A);rw[Rz o];generalize (l.take i).flatMap _=t at *;have TT:xJ s x.name_q=Z n:=by simp only[xJ,S,P]
   unfold k8 vo;simp only[TT];have f:=ajd hr hg hk T RJ (qT rs gs (ns++[x.name_q]) 1) (az s) (aO ns) (aZ l) (E l.length) (E (i:Int)) (.str x.name_q) (.str x.bq) (aZ x.ae) (aZ t);have D:=V n.ae x.ae (ns++[x.name_q]) (by have:=aX (bz o);have:=aD.ek x;omega) N U (by simp only[aR,aE,aJ];omega) h4;generalize gp rs gs d n.ae x.ae (ns++[x.name_q])=e at D;have g3:=ah4 x.name_q x.bq e;have g4:=afR W x.name_q x.bq e;have L:=alZ x.name_q x.bq;have B:=NM x.name_q;rw[Bool.and_comm];generalize qT rs gs (ns++[x.name_q]) 1=c at *;generalize (c && n.bl.all λk=>qT rs gs (ns++[x.name_q]++[k]) 1)=v at *;generalize ns++[x.name_q]=here at *;simp only[ai,aq,ay]at j;cases q:n.bl.length<;>rw[q]at f<;>simp only[kh,kf,ai,aq,ay,n0]at f<;>cases v
   any_goals simp only[go_sem,bn,u0,w,y,H,cR,aT,j,B,F,C,N6,wV,q,n0,f,aQ]
   all_goals
    by_cases c1:n.aw=1
    ·rw[c1]at f;have K:=wV 1 n I;cases p:n.cT<;>rw[p]at f K
     ·cases e with
      |nil=>
       have m:vm n x []=[]:=by simp[vm,c1,p]
       simp only[go_sem,bn,u0,w,y,H,cR,aT,j,B,F,C,N6,wV,q,n0,c1,p,D,f,g3,g4,L,K,m,de0,My,aQ]
      |cons a e=>
       have m:vm n x (a::e)=[⟨x.name_q,x.bq,a::e⟩]:=by simp[vm,c1,p]
       simp only[go_sem,bn,u0,w,y,H,cR,aT,j,B,F,C,N6,wV,q,n0,c1,p,D,f,g3,g4,L,K,m,de0,My]
     ·have m:vm n x e=[⟨x.name_q,x.bq,e⟩]:=by simp[vm,c1,p]
      simp only[go_sem,bn,u0,w,y,H,cR,aT,j,B,F,C,N6,wV,q,n0,c1,p,D,f,g3,g4,L,K,m,de0,My]
    ·have m:vm n x e=[⟨x.name_q,x.bq,e⟩]:=by simp[vm,c1]
     simp only[go_sem,bn,u0,w,y,H,cR,aT,j,B,F,C,N6,wV,q,n0,c1,D,f,g3,g4,L,m,de0,My]
   ) (by simp only[go_sem,bn,u0,aG,bN]) l.length 0 (by omega)
  rw[n0,dw,List.flatMap_nil]at Q;refine dd aj3 rfl ?_;simp only[go_sem,aj3,Wu,Q,gp]
variable {s:M ah} (hs:bQ aB s<=mg)
variable {l:M aD} (ha:bQ bp l<=mg)
include hs ha
theorem aaR:G 343 [az s,aZ l,kg rs,aO gs]=Z (0,[aZ (sr rs gs s l).1,.bool (sr rs gs s l).2]):=by
 have a:=W_ hs ha;refine dd afk rfl ?_;unfold sr;cases b:yM s l<;>rw[b]at a
 ·simp only[go_sem,afk,a,Wu]
 ·have c:G 342 [kg rs,aO gs,az s,aZ l,.list 1 I []]=Z (0,[aZ (gp rs gs (av l+1) s l [])]):=aeW hr hg hk (av l+1) s l [] (aY _) hs ha (by simp only[aJ];omega) (vP b);simp only[go_sem,afk,a,c,Wu]
end
end
section
end
section
theorem aeV(c:Nat):∀(s:M ah) (a b:M aD),av a < c->bQ aB s<=mg->bQ bp a<=mg->bQ bp b<=mg->Rt jX uf (dk s) a->
  G 330 [az s,aZ a,aZ b]=Z (0,[.bool (qA rV c s a b)]):=by
 induction c with
 |zero=>intro s a b h;omega
 |succ c T=>
  intro s a b hz U L K X;have D:a.length<=mg:=by simp only[bQ]at L;omega
  have W:=nH (es:=s);have C:=lf (b:=lB G xA) a (λi=>(0,[az s,aZ b,aZ a,E a.length,E (i:Int)])) (λx=>match pS rV s b x with
    |some (n,y)=>qA rV c n.ae x.ae y.ae
    |none=>J) (1,[az s,aZ b,aZ a,E a.length,E a.length,.bool J]) (0,[.bool J]) (by
   intro i x o;have p:=bF o;have e:=wj p D;have t:=pG o;obtain⟨k,n,N,F,_,Y⟩:=xd X (bz o);have g:=Xd (l:=s) (nm:=x.name_q) U;rw[N]at g;simp only[F,aO,aW,cE,fR]at g;have Q:fN (aB n)<=mg:=by have:=eh aB (bz F);omega
   have B:bQ aB n.ae<=mg:=aL (jI n) Q;obtain⟨S,R⟩:=tc L (bz o);have d:=amQ (n:=n) (l:=b) (x:=x) Q K S;have V:pS rV s b x=(match rV n b x with
     |some j=>(match nth b j with
      |some y=>if (Z' (n.aw=3) && !Z' (y.bq=x.bq))=I then O else Z (n,y)
      |none=>O)
     |none=>O):=by
    unfold pS;simp only[N,F];cases rV n b x with
    |none=>rfl
    |some j=>cases nth b j<;>rfl
   simp only[ai,aT,aq,ay]at g d;have g3:=NM x.name_q;rw[V];cases f:rV n b x with
   |none=>
    rw[f]at d;simp only[go_sem,bn,xA,p,e,t,cR,aT,g,g3,jG,d,wV,e]
   |some j=>
    obtain⟨y,A,_⟩:=dy (show nZ _ b 0=Z j from f);have w:=alx j;have H:=pG A;obtain⟨y1,y2⟩:=tc K (bz A);have q:=T n.ae x.ae y.ae (by have:=aX (bz o);have:=aD.ek x;omega) B R y2 Y;rw[f]at d;simp only[A];by_cases v:n.aw=3
    ·rw[v]at d;by_cases P:y.bq=x.bq
     ·cases m:qA rV c n.ae x.ae y.ae<;>rw[m]at q<;>simp only[go_sem,bn,xA,p,e,t,cR,aT,g,g3,jG,d,wV,e,m,w,v,P,H,q,d]
     ·simp only[go_sem,bn,xA,p,e,t,cR,aT,g,g3,jG,d,wV,e,w,v,P,H,d]
    ·cases m:qA rV c n.ae x.ae y.ae<;>rw[m]at q<;>simp only[go_sem,bn,xA,p,e,t,cR,aT,g,g3,jG,d,wV,e,m,w,v,H,q]
   ) (by simp only[go_sem,bn,xA,aG])
  rw[n0]at C;refine dd aj2 rfl ?_;simp only[qA];generalize a.all _=r at *;cases r<;>simp only[go_sem]at C<;>simp only[go_sem,aj2,C]
section
variable {s:M ah} (hs:bQ aB s<=mg)
include hs
noncomputable def Iz(s:M ah)(a b:M aD):Bool:=yM s a && (yM s b && qA TV (av a+1) s a b)
variable {a b:M aD} (ha:bQ bp a<=mg) (hb:bQ bp b<=mg)
include ha hb
theorem amR:G 331 [az s,aZ a,aZ b]=Z (0,[.bool (Iz s a b)]):=by
 have c:=W_ hs ha;have e:=W_ hs hb;refine dd abb rfl ?_;unfold Iz;cases d:yM s a
 ·rw[d]at c;simp +contextual -implicitDefEqProofs only [go_sem,dJ,dE,dC,dD,bw,dH,dG,dF,ax,jL,jM,jN,jO,aI,eI,eH,abb,c]
 rw[d]at c;cases f:yM s b
 ·rw[f]at e;simp +contextual -implicitDefEqProofs only [go_sem,dJ,dE,dC,dD,bw,dH,dG,dF,ax,jL,jM,jN,jO,aI,eI,eH,abb,c,e]
 have g:=aeV (av a+1) s a b (aY _) hs ha hb (vP d);rw[<- Qo _ _ _ _ (vP d) (vP f)]at g;rw[f]at e;simp +contextual -implicitDefEqProofs only [go_sem,dJ,dE,dC,dD,bw,dH,dG,dF,ax,jL,jM,jN,jO,aI,eI,eH,abb,c,e,g]
end
end
section
end
section
end
section
end
section
noncomputable def acH:jU->z->u z:=yn jX uf
noncomputable def va(t:jU):M gr->u (M z)
 |[]=>Z []
 |c::l=>if (Z' (c.op=4) ||decide (c.op=5))=I then O else match acH t c.bq with
  |none=>O
  |some v=>(va t l).map (v::·)
end
section
theorem M6:∀(k a:Nat),a < 10 ^ (k+1)->(Lib.decDigits a).length<=k+1
 |k,a,h=>by
  rw[Lib.decDigits];split
  ·simp
  ·cases k with
   |zero=>simp at h;omega
   |succ k=>
    have:=M6 k (a / 10) (by rw[Nat.pow_succ]at h;omega);simp only[aR,aE,aJ];omega
theorem Zl{n:Int}(h:-1000000000<=n/\n<=1000000000):(xn n).size<=20:=by
 have a:∀l,(bA l).size=l.length:=λl=>by simp[bA,nD]
 unfold xn;rw[a];unfold Lib.itoa;split
 ·have:=M6 9 n.natAbs (by omega);simp only[aE];omega
 ·have:=M6 9 n.toNat (by omega);omega
theorem Y2{t:jU}{s v:z}(h:acH t s=Z v):v.size<=s.size+20:=by
 unfold acH yn mI at h
 split at h
 ·split at h
  ·split at h
   ·rename_i n a
    split at h
    ·cases h;have:=Zl (Hu a);omega
    ·cases h
   ·cases h
  ·split at h
   ·split at h
    ·cases h;omega
    ·cases h
   ·split at h
    ·split at h
     ·cases h;unfold l7;split
      ·exact aL (show nL.size<=20 by decide) (Nat.le_add_left _ _)
      ·split
       ·exact aL (show la.size<=20 by decide) (Nat.le_add_left _ _)
       ·omega
     ·cases h
    ·split at h
     ·split at h
      ·cases h;omega
      ·cases h
     ·split at h
      ·split at h
       ·cases h;omega
       ·cases h
      ·split at h
       ·split at h
        ·cases h;omega
        ·cases h
       ·cases h
 ·cases h
theorem QC(d:M ah)(l:M aD)(x:aD):bQ bp (qX d l x)<=bQ bp l+fN (bp x)+1:=by
 have e:l.takeWhile (pg d · x)++l.dropWhile (pg d · x)=l:=List.takeWhile_append_dropWhile;have h:=hY bp (l.takeWhile (pg d · x)) (l.dropWhile (pg d · x));rw[e]at h;unfold qX;split
 ·rename_i y b hd;rw[hd,fJ]at h;split
  ·rw[hY,fJ,fJ];omega
  ·omega
 ·rename_i hd;rw[hY,fJ];have:bQ bp []=0:=rfl;omega
abbrev zE(es:M gr):Nat:=21 * bQ uL es
section
variable {oN:M ah->z->M z} {mk:M ah->M aD->M gr->Int ⊕ M aD} (hm:∀s l es l',mk s l es=.inr l'->bQ bp l'<=bQ bp l+zE es)
include hm
end
end
section
end
section
end
section
theorem Cw:(⟨([]:M UInt8).toArray⟩:z)=oP:=(rfl)
end
section
theorem Kd.name_q{d:M ah}{x y:aD}(h:Kd d x)(e:y.name_q=x.name_q):Kd d y:=by unfold Kd at *;rw[e];exact h
end
section
end
section
section
variable {m:Nat} {s:M ah} {l:M aD} {e:gr} {n:ah}
theorem Wl.kd(b:Wl (m+1) s l):∀y∈l,Kd (dk s) y:=λy a=>by
 obtain⟨k,n,h,_⟩:=b.1 y a;exact⟨k,h⟩
end
end
section
end
section
def kA(a:z)(n:ah)(e:gr)(i c k:Nat):M D:=[.str a,.int .i64 (c:Int),aO n.bl,.int .i64 n.bl.length,.int .i64 (i:Int),kc e.ae,.int .i64 e.ae.length,.int .i64 (k:Int)]
def kB(n:ah)(e:gr):M D:=aB n++uL e++[.str oP,.str oP,.str n.name_q,.str oP]
end
section
end
section
end
section
end
section
end
section
section
variable {s:M ah} {l:M aD} {es:M gr} (hs:bQ aB s<=mg) (hl:bQ bp l+zE es<=mg)
include hs hl
end
end
section
noncomputable def wY(a b:M aD):Bool:=@Z' (a=b) (Classical.propDecidable _)
theorem hO.BV{B t:Nat}{a:Type}{f:a->M D}:∀{l:M a},(∀x∈l,gX B (lay t) (f x))->hO B t (l.map f)
 |[],_=>by simp only[cE,hO]
 |x::l,h=>by
  simp only[aW,hO];exact⟨h x aU,hO.BV λy b=>h y (bk _ b)⟩
end
section
def L8(sm:M aD->M aD->Bool)(b:M aD)(i:Nat)(x:aD):Bool:=match nth b i with
 |some y=>Z' (x.name_q=y.name_q) && (Z' (x.bq=y.bq) && sm x.ae y.ae)
 |none=>J
theorem LK:∀{a b:M aD},a.length=b.length->(∀j x,nth a j=Z x->nth b j=Z x)->a=b
 |[],[],_,_=>rfl
 |x::a,y::b,h,d=>by
  have f:=d 0 x rfl;cases f;rw[LK (a:=a) (b:=b) (by simpa using h) λj c e=>d (j+1) c e]
theorem sj{a b:M aD}:wY a b=I↔a=b:=by simp[wY]
theorem Tl{a b:M aD}(h:a.length=b.length):allI (L8 wY b) 0 a=wY a b:=by
 rw[dL,mm,sj];simp only[bD]
 constructor
 ·intro f;refine LK h λj x d=>?_;have c:=f j x d;unfold L8 at c;cases e:nth b j with
  |none=>rw[e]at c;cases c
  |some y=>
   rw[e]at c;simp only[af,decide_eq_true_eq,sj]at c;cases x;cases y;simp only at c
   rw[c.1,c.2.1,c.2.2]
 ·rintro rfl j x d
  unfold L8;rw[d];simp[sj]
theorem aes(c:Nat):∀a b:M aD,av a < c->bQ bp a<=mg->bQ bp b<=mg->G 197 [aZ a,aZ b]=Z (0,[.bool (wY a b)]):=by
 induction c with
 |zero=>intro a b h;omega
 |succ c r=>
  intro a b w o t;refine dd t197 rfl ?_;by_cases k:a.length=b.length
  ·have l:a.length<=mg:=by simp only[bQ]at o;omega
   have g:(a.length:Int)=(b.length:Int):=by omega
   have h:=n6 (b:=lB G Ay) a (λi=>(0,[aZ a,aZ b,E a.length,E (i:Int)])) (L8 wY b) (1,[aZ a,aZ b,E a.length,E a.length,.bool J]) (0,[.bool J]) (by
    intro i x e;have f:=bF e;have j:=wj f l;have n:=pG e;have d:nth b i=Z (b[i]'(by omega)):=dV (by omega);generalize (b[i]'(by omega))=y at d;have m:=pG d;have p:=r x.ae y.ae (by have:=aX (bz e);have:=aD.ek x;omega) (tc o (bz e)).2 (tc t (bz d)).2;unfold L8;simp only[d];by_cases c1:x.name_q=y.name_q
    ·by_cases q:x.bq=y.bq
     ·cases s:wY x.ae y.ae<;>rw[s]at p<;>simp only[go_sem,bn,Ay,f,j,n,m,aT x,aT y,c1,q,p]
     ·simp only[go_sem,bn,Ay,f,j,n,m,aT x,aT y,c1,q]
    ·simp only[go_sem,bn,Ay,f,j,n,m,aT x,aT y,c1]) (by simp only[go_sem,bn,Ay,aG]) a.length 0 (by omega)
   rw[n0,cK,Tl k]at h;rw[k]at h;cases hd:wY a b<;>rw[hd]at h<;>simp only[go_sem]at h<;>simp only[go_sem,t197,g,h]
  ·have g:¬(a.length:Int)=(b.length:Int):=by omega
   have v:wY a b=J:=by
    rw[<- Bool.not_eq_true,sj];exact λh=>k (by rw[h])
   simp only[go_sem,t197,g,v]
theorem aiK{a b:M aD}(d:bQ bp a<=mg)(c:bQ bp b<=mg):G 197 [aZ a,aZ b]=Z (0,[.bool (wY a b)]):=aes _ a b (aY _) d c
end
theorem Uw{B:Nat}{es:M (M D)}(ok:hO B 1 es):∃a:M l6,es=a.map tO:=o0 λe i=>by
 obtain⟨f,j,d,b,h,_,⟨_,c⟩,_⟩:=VX (ok.mem e i);obtain⟨g,rfl⟩:=yp c;exact⟨⟨f,g,d,b⟩,h⟩
theorem Ti{l:M l6}{r:l6}(h:bQ tO l<=mg)(a:r∈l):r.names.length<=mg:=by
 have b:=eh tO a;simp only[tO,fN,D.sz,aj]at b;omega
section
def lY(p:Nat->Bool):Nat->Nat->Nat
 |i,0=>i
 |i,m+1=>if p i=I then lY p (i+1) m else i
theorem nt(p:Nat->Bool):∀(m i:Nat),i<=lY p i m/\lY p i m<=i+m
 |0,i=>by simp[lY]
 |m+1,i=>by
  unfold lY;split
  ·have:=nt p m (i+1);omega
  ·omega
def Fy(p:Nat->Bool):Nat->Nat
 |0=>0
 |i+1=>if p i=I then Fy p i else i+1
theorem HT(p:Nat->Bool):∀i,Fy p i<=i
 |0=>au _
 |i+1=>by
  unfold Fy;split
  ·have:=HT p i;omega
  ·omega
theorem OT(p:Nat->Bool){k:Nat}(b:p k=J):∀i,k < i->k < Fy p i
 |0,h=>by omega
 |i+1,h=>by
  unfold Fy;split
  ·rename_i a;by_cases e:i=k
   ·rw[e,b]at a;cases a
   ·exact OT p b i (by omega)
  ·omega
def TW(s:z)(i:Nat):Nat:=Fy (λj=>Z' (cr s j=45)) (lY (λj=>lx (cr s j)) i (s.size - i))
theorem NQ{s:z}{i:Nat}(e:i < s.size)(a:fG 97 122 (cr s i)=I):i < TW s i/\TW s i<=s.size:=by
 have g:=nt (λj=>lx (cr s j)) (s.size - i) i;have d:i < lY (λj=>lx (cr s j)) i (s.size - i):=by
  obtain⟨m,b⟩:∃m,s.size - i=m+1:=⟨s.size - i - 1,by omega⟩
  rw[b];unfold lY;have:lx (cr s i)=I:=by simp[lx,a]
  rw[if_pos this];have:=(nt (λj=>lx (cr s j)) m (i+1)).1;omega
 have c:Z' (cr s i=45)=J:=by
  have:=(gG _ _ _).1 a;simp;omega
 have f:=HT (λj=>Z' (cr s j=45)) (lY (λj=>lx (cr s j)) i (s.size - i));exact⟨OT (λj=>Z' (cr s j=45)) c _ d,by unfold TW;omega⟩
def qE(s:z):Nat->Nat->u Nat
 |0,_=>O
 |m+1,i=>if i < s.size then (if cr s i=34 then Z (i+1) else if cr s i=92 then (if i+1=s.size\/(cr s (i+1)≠34/\cr s (i+1)≠92) then O else qE s m (i+2)) else qE s m (i+1)) else O
theorem QE{s:z}:∀{m i j:Nat},qE s m i=Z j->i < j/\j<=s.size
 |0,_,_,h=>by cases h
 |m+1,i,j,h=>by
  unfold qE at h
  split at h
  ·split at h
   ·cases h;omega
   ·split at h
    ·split at h
     ·cases h
     ·have:=QE h;omega
    ·have:=QE h;omega
  ·cases h
def unB(s:z)(e:Nat):Nat->Nat->M Int
 |0,_=>[]
 |m+1,i=>if i < e then (if cr s i=92 then cr s (i+1)::unB s e m (i+2) else cr s i::unB s e m (i+1)) else []
theorem JI{s:z}{e:Nat}:∀{m i:Nat},(unB s e m i).length<=m
 |0,_=>au _
 |m+1,i=>by
  unfold unB;split
  ·split
   ·simp only[aE];have:=JI (s:=s) (e:=e) (m:=m) (i:=i+2);omega
   ·simp only[aE];have:=JI (s:=s) (e:=e) (m:=m) (i:=i+1);omega
  ·simp
def txB(l:M Int):z:=⟨(l.map λn=>dX n.toNat).toArray⟩
theorem X2(l:M Int):(txB l).size=l.length:=by
 show ((l.map λn=>dX n.toNat).toArray).size=_;simp
def unq(s:z):z:=txB (unB s (s.size - 1) s.size 1)
theorem X3(s:z):(unq s).size<=s.size:=by
 rw[unq,X2];exact JI
def OB(t:z):z:=if t.size < 2\/cr t 0≠34\/qE t t.size 1≠Z t.size then oP else unq t
theorem HH(t:z):(OB t).size<=t.size:=by
 unfold OB;split
 ·exact cB _
 ·exact X3 t
def aae(t:z):Bool:=Z' (t=⟨#[33,61]⟩) ||(Z' (t=⟨#[60,61]⟩) ||(Z' (t=⟨#[62,61]⟩) ||decide (t=⟨#[46,46]⟩)))
def xH:z:=⟨#[123,125,59,91,93,40,41,60,62,61,43,45,47,124,46,44,36,58]⟩
def NK(b:Int):Bool:=!pB (λk=>!Z' (b=cr xH k)) 0 18
def B4(s:z)(i:Nat):Nat:=if i+2<=s.size/\aae (s.extract i (i+2))=I then 2 else if NK (cr s i)=I then 1 else 0
theorem Ws{s:z}{i:Nat}(a:i < s.size):i+B4 s i<=s.size:=by
 unfold B4;split
 ·omega
 ·split<;>omega
structure gL where
 aw:Int
 text:ByteArray
 pos:Int
def qi(t:gL):M D:=[.int .i64 t.aw,.str t.text,.int .i64 t.pos]
abbrev eb(l:M gL):D:=.list 3 I (l.map qi)
theorem Co(t:gL):qi t=[E t.aw,.str t.text,E t.pos]:=(rfl)
theorem QT(t:gL):fN (qi t)=t.text.size:=by simp[qi,fN,D.sz]
def yT(s:z):Nat->Nat->M gL->M gL×Int
 |0,_,out=>(out,-1)
 |m+1,i,out=>if i < s.size then
   (if cr s i=32\/cr s i=10 then yT s m (i+1) out
   else if cr s i=35 then yT s m (lY (λj=>!Z' (cr s j=10)) i (s.size - i)) out
   else if fG 97 122 (cr s i)=I then yT s m (TW s i) (out++[⟨1,s.extract i (TW s i),i⟩])
   else if fG 48 57 (cr s i)=I then yT s m (lY (λj=>fG 48 57 (cr s j)) i (s.size - i)) (out++[⟨2,s.extract i (lY (λj=>fG 48 57 (cr s j)) i (s.size - i)),i⟩])
   else if cr s i=34 then (match qE s s.size (i+1) with
    |none=>([],i)
    |some j=>yT s m j (out++[⟨3,OB (s.extract i j),i⟩]))
   else if B4 s i=0 then ([],i) else yT s m (i+B4 s i) (out++[⟨4,s.extract i (i+B4 s i),i⟩]))
  else (out,-1)
def ue(s:z):M gL×Int:=yT s s.size 0 []
def JQ(l:M gL)(n:Nat):Prop:=bQ qi l<=2 * n
theorem JQ.app{l:M gL}{i j:Nat}{t:gL}(h:JQ l i)(b:i < j)(a:t.text.size<=j - i):JQ (l++[t]) j:=by
 unfold JQ at *;simp only[bQ,aR,bR,aW,cE,tI,nG,aE,aJ,QT]at *;omega
theorem pH(s:z){i j:Nat}(h:j<=s.size):(s.extract i j).size=j - i:=by simp;omega
theorem ti{s:z}:∀(m i:Nat) (out:M gL),i<=s.size->JQ out i->JQ (yT s m i out).1 s.size
 |0,i,out,b,h=>by
  unfold yT JQ at *;dsimp only;omega
 |m+1,i,out,b,h=>by
  have nil:JQ [] s.size:=by simp[JQ,bQ,nG]
  unfold yT;split
  ·rename_i b;split
   ·exact ti m _ _ (by omega) (by unfold JQ at *;omega)
   split
   ·rename_i o n;have a:=nt (λj=>!Z' (cr s j=10)) (s.size - i) i;exact ti m _ _ (by omega) (by unfold JQ at *;omega)
   split
   ·rename_i g;have a:=NQ b g;exact ti m _ _ a.2 (h.app a.1 (by rw[pH s a.2];exact au _))
   split
   ·rename_i f;have a:=nt (λj=>fG 48 57 (cr s j)) (s.size - i) i;have c:i < lY (λj=>fG 48 57 (cr s j)) i (s.size - i):=by
     obtain⟨k,d⟩:∃k,s.size - i=k+1:=⟨s.size - i - 1,by omega⟩
     rw[d];unfold lY;rw[if_pos f];have:=(nt (λj=>fG 48 57 (cr s j)) k (i+1)).1;omega
    exact ti m _ _ (by omega) (h.app c (by rw[pH s (by omega)];exact au _))
   split
   ·split
    ·exact nil
    ·rename_i j e;have a:=QE e;exact ti m _ _ a.2 (h.app (by omega) (aL (HH _) (by rw[pH s a.2];exact au _)))
   split
   ·exact nil
   ·rename_i l;have a:=Ws b;exact ti m _ _ a (h.app (by omega) (by rw[pH s a];exact au _))
  ·unfold JQ at *;dsimp only;omega
theorem PY(s:z):bQ qi (ue s).1<=2 * s.size:=ti s.size 0 [] (cB _) (by simp[JQ,bQ,nG])
theorem Cr{c β:Type}{b:c->u (Sg c β)}(mk:Nat->c)(fin:Nat->β)(p:Nat->Bool)(n:Nat)
  (e:∀i,i < n->b (mk i)=Z (if p i=I then .go (mk (i+1)) else .out (fin i))) (f:b (mk n)=Z (.out (fin n))):∀m i,i+m=n->bK b (mk i)=Z (fin (lY p i m))
 |0,i,h=>by
  obtain rfl:i=n:=by omega
  exact aF f
 |m+1,i,h=>by
  have a:=e i (by omega);unfold lY;split
  ·rename_i d;rw[if_pos d]at a;rw[bB a];exact Cr mk fin p n e f m (i+1) (by omega)
  ·rename_i d;rw[if_neg d]at a;exact aF a
theorem Pw{d β:Type}{b:d->u (Sg d β)}(mk:Nat->d)(fin:Nat->β)(p:Nat->Bool)(k n:Nat)(g:p k=J)
  (f:∀i,k<=i->i < n->b (mk (i+1))=Z (if p i=I then .go (mk i) else .out (fin (i+1)))):∀i,k < i->i<=n->bK b (mk i)=Z (fin (Fy p i))
 |0,h,_=>by omega
 |i+1,h,j=>by
  have c:=f i (by omega) (by omega);unfold Fy;split
  ·rename_i a;rw[if_pos a]at c;rw[bB c];have:k≠i:=λe=>by rw[<- e,g]at a;cases a
   exact Pw mk fin p k n g f i (by omega) (by omega)
  ·rename_i a;rw[if_neg a]at c;exact aF c
end
section
theorem acn{i:Nat}(a:i+1<=mg):IntKind.i64.wrap (((i+1:Nat):Int) - 1)=(i:Int):=by
 simp only[mg]at a;rw[wrap_i64 (by omega)];omega
theorem amU{s:z}{i:Nat}(r:s.size<=mg)(x:i < s.size)(o:fG 97 122 (cr s i)=I):G 391 [.str s,E i]=Z (0,[E (TW s i)]):=by
 have y:=Cr (b:=lB G AQ) (λj=>(0,[.str s,.int .i64 (j:Int)])) (λj=>(0,[.str s,.int .i64 (j:Int),.bool J])) (λj=>lx (cr s j)) s.size (by
  intro j f;have c:=wj f r;have g:=mF s j;have m:=W5 g;have l:=N_ g;cases c1:fG 97 122 (cr s j)
  ·cases p:fG 48 57 (cr s j)
   ·obtain⟨v,A⟩:∃v,Z' (cr s j=45)=v:=⟨_,rfl⟩
    cases v<;>simp only[go_sem,bn,AQ,f,c9,m,l,c,lx,c1,p,A]
   ·simp only[go_sem,bn,AQ,f,c9,m,l,c,lx,c1,p]
  ·simp only[go_sem,bn,AQ,f,c9,m,l,c,lx,c1]
  ) (by simp only[go_sem,bn,AQ,aG]) (s.size - i) i (by omega)
 have t:=nt (λj=>lx (cr s j)) (s.size - i) i;have hd:Z' (cr s i=45)=J:=by
  have:=(gG _ _ _).1 o;simp;omega
 have q:i < lY (λj=>lx (cr s j)) i (s.size - i):=by
  have:=NQ x o;have:=HT (λj=>Z' (cr s j=45)) (lY (λj=>lx (cr s j)) i (s.size - i));unfold TW at *;omega
 have st:∀j,j < s.size->lB G AS (1,[.str s,E ((j+1:Nat):Int)])=Z (if Z' (cr s j=45)=I then .go (1,[.str s,.int .i64 (j:Int)]) else .out (0,[.str s,E ((j+1:Nat):Int),.bool J]))/\
   lB G AS (0,[.str s,E ((j+1:Nat):Int),.bool J])=Z (if Z' (cr s j=45)=I then .go (1,[.str s,.int .i64 (j:Int)]) else .out (0,[.str s,E ((j+1:Nat):Int),.bool J])):=by
  intro j h;have c:=acn (i:=j) (by omega);obtain⟨v,e⟩:∃v,Z' (cr s j=45)=v:=⟨_,rfl⟩
  constructor<;>cases v<;>simp only[go_sem,bn,AS,c,c9 _ _ h,e]
 have g:=Pw (b:=lB G AS) (λj=>(1,[.str s,.int .i64 (j:Int)])) (λj=>(0,[.str s,.int .i64 (j:Int),.bool J])) (λj=>Z' (cr s j=45)) i s.size hd (λj _ h=>(st j h).1);refine dd afl rfl ?_;simp only[go_sem,afl,y];obtain⟨k,w⟩:∃k,lY (λj=>lx (cr s j)) i (s.size - i)=k+1:=⟨lY (λj=>lx (cr s j)) i (s.size - i) - 1,by omega⟩
 unfold TW;rw[w]at q t ⊢;have a:=(st k (by omega)).2;have n:bK (lB G AS) (0,[.str s,E ((k+1:Nat):Int),.bool J])=Z (0,[.str s,E ((Fy (λj=>Z' (cr s j=45)) (k+1):Nat):Int),.bool J]):=by
  unfold Fy;split
  ·rename_i d;rw[if_pos d]at a;have B:i≠k:=λe=>by rw[<- e,hd]at d;cases d
   exact (bB a).trans (g k (by omega) (by omega))
  ·rename_i d;rw[if_neg d]at a;exact aF a
 simp only[go_sem,n]
theorem aeY{s:z}(q:s.size<=mg):∀(m i:Nat),s.size<=i+m->i<=s.size+1->bK (lB G mh) (0,[.str s,E (i:Int)])=Z (0,[E (jG (qE s m i))])\/(qE s m i=O/\∃C:Nat,bK (lB G mh) (0,[.str s,E (i:Int)])=Z (1,[.str s,E (C:Int),.bool J])):=by
 intro m
 induction m with
 |zero=>
  intro i H F;have D:¬i < s.size:=by omega
  refine .inr ⟨rfl,i,aF ?_⟩;simp only[go_sem,bn,mh,D]
 |succ m p=>
  intro i H F;by_cases a:i < s.size
  ·have c:=wj a q;have j:i+1 < s.size->IntKind.i64.wrap (((i+1:Nat):Int)+1)=((i+2:Nat):Int):=λh=>wj h q;unfold qE;rw[if_pos a];obtain⟨v,c1⟩:∃v,Z' (cr s i=34)=v:=⟨_,rfl⟩
   obtain⟨w,b⟩:∃v,Z' (cr s i=92)=v:=⟨_,rfl⟩
   cases v
   ·have n1:¬cr s i=34:=by simpa using c1
    rw[if_neg n1];cases w
    ·have n2:¬cr s i=92:=by simpa using b
     rw[if_neg n2];have l:bK (lB G mh) (0,[.str s,E (i:Int)])=bK (lB G mh) (0,[.str s,E ((i+1:Nat):Int)]):=bB (by simp only[go_sem,bn,mh,a,c9 _ _ a,c1,b,c]);rw[l];exact p (i+1) (by omega) (by omega)
    ·have A:cr s i=92:=by simpa using b
     rw[if_pos A];by_cases r:i+1=s.size
     ·rw[if_pos (.inl r)];have f:((i+1:Nat):Int)=(s.size:Int):=by omega
      refine .inl (aF ?_);simp only[go_sem,bn,mh,a,c9 _ _ a,c1,b,c,f,jG]
     ·have t:i+1 < s.size:=by omega
      have f:Z' (((i+1:Nat):Int)=(s.size:Int))=J:=by simp;omega
      have k:=c9 s (i+1) t;have j:=j t;obtain⟨x,e⟩:∃v,Z' (cr s (i+1)=34)=v:=⟨_,rfl⟩
      obtain⟨y,d⟩:∃v,Z' (cr s (i+1)=92)=v:=⟨_,rfl⟩
      by_cases g:cr s (i+1)≠34/\cr s (i+1)≠92
      ·rw[if_pos (.inr g)];have o:x=J:=by rw[<- e];simpa using g.1
       have n:y=J:=by rw[<- d];simpa using g.2
       subst o n;refine .inl (aF ?_);simp only[go_sem,bn,mh,a,c9 _ _ a,c1,b,c,f,k,e,d,jG]
      ·rw[if_neg (by rintro (h|h);exact r h;exact g h)];have l:bK (lB G mh) (0,[.str s,E (i:Int)])=bK (lB G mh) (0,[.str s,E ((i+2:Nat):Int)]):=bB (by
        cases x<;>cases y
        ·exact absurd ⟨by simpa using e,by simpa using d⟩ g
        ·simp only[go_sem,bn,mh,a,c9 _ _ a,c1,b,c,f,k,e,d,j]
        ·simp only[go_sem,bn,mh,a,c9 _ _ a,c1,b,c,f,k,e,d,j]
        ·simp only[go_sem,bn,mh,a,c9 _ _ a,c1,b,c,f,k,e,d,j])
       rw[l];exact p (i+2) (by omega) (by omega)
   ·have B:cr s i=34:=by simpa using c1
    rw[if_pos B];refine .inl (aF ?_);simp only[go_sem,bn,mh,a,c9 _ _ a,c1,c,jG]
  ·unfold qE;rw[if_neg a];refine .inr ⟨rfl,i,aF ?_⟩;simp only[go_sem,bn,mh,a]
theorem aji{s:z}{i:Nat}(b:s.size<=mg)(c:i < s.size):G 392 [.str s,E i]=Z (0,[E (jG (qE s s.size (i+1)))]):=by
 have a:=wj c b;refine dd abd rfl ?_;rcases aeY b s.size (i+1) (by omega) (by omega) with h|⟨d,e,h⟩
 ·simp only[go_sem,abd,a,h]
 ·simp only[go_sem,abd,a,h,d,jG]
theorem zk(t:z){a b:Nat}(h:a<=b)(c:b<=t.size):aK (.MI I) [.str t,E (a:Int),E (b:Int)]=Z (.str (t.extract a b)):=by
 simp only[aK,dI,cq];rw[if_pos (by omega),if_pos (by omega)];dsimp only;rw[if_pos ⟨h,c⟩]
theorem n18:((18:Nat):Int)=18:=(rfl)
theorem Wq:(⟨[123,125,59,91,93,40,41,60,62,61,43,45,47,124,46,44,36,58].toArray⟩:z)=xH:=(rfl)
theorem Z7{s:z}{i:Nat}(c:i < s.size)(j:s.size<=mg):bK (lB G D2) (0,[.str s,E i,E 0])=Z (if NK (cr s i)=I then (0,[.str (s.extract i (i+1))]) else (1,[.str s,E i,E 18,.bool J])):=by
 have g:=wj c j;have f:aK (.MI I) [.str s,E (i:Int),E ((i+1:Nat):Int)]=Z (.str (s.extract i (i+1))):=zk s (by omega) (by omega);have h:=o7 (b:=lB G D2) (λk=>(0,[.str s,E i,E (k:Int)])) (λk=>!Z' (cr s i=cr xH k)) 18 (1,[.str s,E i,E 18,.bool J]) (0,[.str (s.extract i (i+1))]) (by
  intro k l;have d:(k:Int) < 18:=by omega
  have m:=c9 xH k (show k < xH.size from l);have a:IntKind.i64.wrap ((k:Int)+1)=((k+1:Nat):Int):=by rw[wrap_i64 (by omega)];omega
  obtain⟨v,e⟩:∃v,Z' (cr s i=cr xH k)=v:=⟨_,rfl⟩
  cases v<;>simp only[go_sem,bn,D2,d,Wq,m,c9 _ _ c,e,g,f,a]) (by simp only[go_sem,bn,D2,n18]) 18 0 rfl
 rw[n0]at h;rw[h];unfold NK;cases pB (λk=>!Z' (cr s i=cr xH k)) 0 18<;>rfl
def yY(s:z)(i:Nat):z:=s.extract i (i+B4 s i)
theorem amW{s:z}{i:Nat}(r:s.size<=mg)(y:i < s.size):G 394 [.str s,E i]=Z (0,[.str (yY s i)]):=by
 have k:=Z7 y r;have g:IntKind.i64.wrap ((i:Int)+2)=((i+2:Nat):Int):=by simp only[mg]at r;rw[wrap_i64 (by omega)];omega
 have w:(⟨([]:M UInt8).toArray⟩:z)=oP:=(rfl)
 have A:s.extract i i=oP:=by
  apply XB
  rw[pH s (by omega)];omega
 have q:∀h:¬(i+2<=s.size/\aae (s.extract i (i+2))=I),yY s i=if NK (cr s i)=I then s.extract i (i+1) else oP:=by
  intro h;unfold yY B4;rw[if_neg h];cases NK (cr s i)
  ·rw[if_neg (by simp),if_neg (by simp),eu];exact A
  ·rw[if_pos rfl,if_pos rfl]
 refine dd FO rfl ?_;by_cases p:i+2<=s.size
 ·have j:aK (.MI I) [.str s,E (i:Int),E ((i+2:Nat):Int)]=Z (.str (s.extract i (i+2))):=zk s (by omega) p;have f:((i+2:Nat):Int)<=(s.size:Int):=by omega
  have e:aae (s.extract i (i+2))=I->yY s i=s.extract i (i+2):=by
   intro h;unfold yY B4;rw[if_pos ⟨p,h⟩]
  generalize s.extract i (i+2)=t at *;obtain⟨a,c1⟩:∃v,Z' (t=⟨[33,61].toArray⟩)=v:=⟨_,rfl⟩
  obtain⟨b,l⟩:∃v,Z' (t=⟨[60,61].toArray⟩)=v:=⟨_,rfl⟩
  obtain⟨c,m⟩:∃v,Z' (t=⟨[62,61].toArray⟩)=v:=⟨_,rfl⟩
  obtain⟨d,n⟩:∃v,Z' (t=⟨[46,46].toArray⟩)=v:=⟨_,rfl⟩
  have x:aae t=(a ||(b ||(c ||d))):=by
   rw[<- c1,<- l,<- m,<- n];rfl
  rw[x]at e q;cases a
  ·cases b
   ·cases c
    ·cases d
     ·rw[q (by simp)];cases o:NK (cr s i)<;>rw[o]at k
      ·simp only[go_sem,FO,g,f,j,c1,l,m,n,k,w]
      ·simp only[go_sem,FO,g,f,j,c1,l,m,n,k]
     ·rw[e rfl];simp only[go_sem,FO,g,f,j,c1,l,m,n]
    ·rw[e rfl];simp only[go_sem,FO,g,f,j,c1,l,m]
   ·rw[e rfl];simp only[go_sem,FO,g,f,j,c1,l]
  ·rw[e rfl];simp only[go_sem,FO,g,f,j,c1]
 ·have f:¬((i+2:Nat):Int)<=(s.size:Int):=by omega
  rw[q (λh=>p h.1)];cases o:NK (cr s i)<;>rw[o]at k
  ·simp only[go_sem,FO,g,f,k,w]
  ·simp only[go_sem,FO,g,f,k]
def KL(n:Int):M D:=[.int .u8 n]
abbrev sL(l:M Int):D:=.list 1 I (l.map KL)
theorem Kk:∀l:M Int,bytesOf (l.map KL)=Z l
 |[]=>rfl
 |n::l=>by
  have h:=Kk l;simp only[aW,KL,bytesOf]at h ⊢;rw[show bytesOf (l.map KL)=Z l from h];rfl
theorem ad5(l:M Int):aK .Mw [sL l]=Z (.str (txB l)):=by
 simp only[aK,Kk,aH];rfl
theorem ah2(n:Int):aK (.mW 1 I) [.int .u8 n]=Z (sL [n]):=by simp[aK,chunk,cD,D.plain,KL]
theorem ah3:aK (.mW 1 I) []=Z (sL []):=(rfl)
theorem afO{l:M Int}(h:l.length<=mg)(n:Int):aK (.app 1 1) [sL l,sL [n]]=Z (sL (l++[n])):=by
 rw[eQ 1 1 I _ _ (by decide) (by simp only[mg,aj,aE,aJ]at *;omega),sL,bR]
theorem aeZ{s:z}(g:s.size<=mg)(B:1<=s.size):∀(m i:Nat) (out:M Int),s.size<=i+m->out.length<=i->i<=s.size+1->∃a:Nat,bK (lB G AT) (0,[.str s,E (i:Int),sL out])=Z (0,[.str s,E (a:Int),.bool J,sL (out++unB s (s.size - 1) m i)]):=by
 have c:IntKind.i64.wrap ((s.size:Int) - 1)=((s.size - 1:Nat):Int):=by simp only[mg]at g;rw[wrap_i64 (by omega)];omega
 intro m
 induction m with
 |zero=>
  intro i out t n r;have q:¬i < s.size - 1:=by omega
  refine⟨i,aF ?_⟩;simp only[go_sem,bn,AT,c,q,unB,aQ]
 |succ m j=>
  intro i out t n r;unfold unB;by_cases b:i < s.size - 1
  ·rw[if_pos b];have f:i < s.size:=by omega
   have k:=wj f g;obtain⟨w,d⟩:∃v,Z' (cr s i=92)=v:=⟨_,rfl⟩
   have A:IntKind.u8.wrap (cr s i)=cr s i:=wrap_u8 (mF s i);cases w
   ·have n2:¬cr s i=92:=by simpa using d
    rw[if_neg n2];obtain⟨a,e⟩:=j (i+1) (out++[cr s i]) (by omega) (by rw[aR];simpa using n) (by omega);have h:=afO (l:=out) (by omega) (cr s i);refine⟨a,?_⟩;rw[bE]at e;refine (bB ?_).trans e;simp only[go_sem,bn,AT,c,b,c9 _ _ f,d,k,ah2,h]
   ·have p:cr s i=92:=by simpa using d
    rw[if_pos p];have o:i+1 < s.size:=by omega
    have y:IntKind.i64.wrap (((i+1:Nat):Int)+1)=((i+2:Nat):Int):=wj o g;have x:=c9 s (i+1) o;obtain⟨a,e⟩:=j (i+2) (out++[cr s (i+1)]) (by omega) (by rw[aR];simp;omega) (by omega);have h:=afO (l:=out) (by omega) (cr s (i+1));refine⟨a,?_⟩;rw[bE]at e;refine (bB ?_).trans e;simp only[go_sem,bn,AT,c,b,c9 _ _ f,d,k,x,y,ah2,h]
  ·rw[if_neg b];refine⟨i,aF ?_⟩;simp only[go_sem,bn,AT,c,b,aQ]
theorem amV{s:z}(k:s.size<=mg):∃b,G 393 [.str s]=Z (0,[.str (OB s),.bool b]):=by
 have f:(⟨([]:M UInt8).toArray⟩:z)=oP:=(rfl)
 unfold OB;by_cases m:s.size < 2
 ·rw[if_pos (.inl m)];have a:(s.size:Int) < 2:=by omega
  refine⟨J,dd JB rfl ?_⟩;simp only[go_sem,JB,a,f]
 ·have a:¬(s.size:Int) < 2:=by omega
  have d:=gU (t:=s) (by omega);have e:=aji (s:=s) (i:=0) k (by omega);rw[n0,bD]at e;obtain⟨v,c1⟩:∃v,Z' (cr s 0=34)=v:=⟨_,rfl⟩
  cases v
  ·have n1:¬cr s 0=34:=by simpa using c1
   rw[if_pos (.inr (.inl n1))];refine⟨J,dd JB rfl ?_⟩;simp only[go_sem,JB,a,d,c1,f]
  ·have n:cr s 0=34:=by simpa using c1
   obtain⟨w,g⟩:∃v,Z' (jG (qE s s.size 1)=(s.size:Int))=v:=⟨_,rfl⟩
   have c:(qE s s.size 1≠Z s.size)↔w=J:=by
    rw[<- g];cases c:qE s s.size 1 with
    |none=>
     rw[decide_eq_false_iff_not];simp only[ne_eq,reduceCtorEq,not_false_eq_true,jG,true_iff]
     try omega
    |some j=>
     rw[decide_eq_false_iff_not];simp only[ne_eq,aa,jG];exact⟨λh o=>h (by omega),λh o=>h (by omega)⟩
   cases w
   ·rw[if_pos (.inr (.inr (c.2 rfl)))];refine⟨J,dd JB rfl ?_⟩;simp only[go_sem,JB,a,d,c1,e,g,f]
   ·rw[if_neg (by rintro (h|h|h);exact m h;exact h n;exact absurd (c.1 h) (by simp))];obtain⟨p,l⟩:=aeZ k (by omega) s.size 1 [] (by omega) (by simp) (by omega);rw[n1]at l;refine⟨I,dd JB rfl ?_⟩;simp only[go_sem,JB,a,d,c1,e,g,ah3,l,ay,ad5,unq]
theorem aaf(k:Int)(t:z)(p:Int):aK (.mW 3 I) [E k,.str t,E p]=Z (eb [⟨k,t,p⟩]):=by simp[aK,chunk,cD,D.plain,qi]
theorem LF:aK (.mW 3 I) []=Z (eb []):=(rfl)
theorem apT{l:M gL}(h:l.length<=mg)(t:gL):aK (.app 3 32) [eb l,eb [t]]=Z (eb (l++[t])):=by
 rw[eQ 3 32 I _ _ (by decide) (by simp only[mg,aj,aE,aJ]at *;omega),eb,bR]
theorem Sr{s:z}(g:s.size<=mg){i f:Nat}{out:D}(e:i < s.size)(o:cr s i=35):bK (lB G xB) (0,[.str s,E i,E f,.bool I,out])=Z (0,[.str s,E (lY (λj=>!Z' (cr s j=10)) i (s.size - i):Nat),.bool J,out]):=by
 have a:=wj e g;have h:Z' (cr s i=10)=J:=by rw[o];decide
 have n:=Cr (b:=lB G xB) (λj=>(1,[.str s,E (j:Int),out])) (λj=>(0,[.str s,E (j:Int),.bool J,out])) (λj=>!Z' (cr s j=10)) s.size (by
  intro j d;have a:=wj d g;obtain⟨v,c⟩:∃v,Z' (cr s j=10)=v:=⟨_,rfl⟩
  cases v<;>simp only[go_sem,bn,xB,d,c9 _ _ d,c,a]) (by simp only[go_sem,bn,xB,aG]) (s.size - (i+1)) (i+1) (by omega)
 have l:lY (λj=>!Z' (cr s j=10)) i (s.size - i)=lY (λj=>!Z' (cr s j=10)) (i+1) (s.size - (i+1)):=by
  obtain⟨k,m⟩:∃k,s.size - i=k+1:=⟨s.size - (i+1),by omega⟩
  rw[m,lY,if_pos (by rw[h];rfl),show s.size - (i+1)=k by omega]
 rw[l,<- n];refine bB ?_;simp only[go_sem,bn,xB,e,c9 _ _ e,h,a]
theorem Ss{s:z}(g:s.size<=mg){i f:Nat}{out:D}(e:i < s.size)(h:fG 48 57 (cr s i)=I):bK (lB G xC) (0,[.str s,E i,E f,.bool I,out])=Z (0,[.str s,E (lY (λj=>fG 48 57 (cr s j)) i (s.size - i):Nat),E f,.bool J,out]):=by
 have a:=wj e g;have m:=N_ (mF s i);rw[h]at m;have p:=Cr (b:=lB G xC) (λj=>(1,[.str s,E (j:Int),E f,out])) (λj=>(0,[.str s,E (j:Int),E f,.bool J,out])) (λj=>fG 48 57 (cr s j)) s.size (by
  intro j d;have a:=wj d g;have l:=N_ (mF s j);cases c:fG 48 57 (cr s j)<;>rw[c]at l<;>simp only[go_sem,bn,xC,d,c9 _ _ d,l,a]) (by simp only[go_sem,bn,xC,aG]) (s.size - (i+1)) (i+1) (by omega)
 have n:lY (λj=>fG 48 57 (cr s j)) i (s.size - i)=lY (λj=>fG 48 57 (cr s j)) (i+1) (s.size - (i+1)):=by
  obtain⟨k,o⟩:∃k,s.size - i=k+1:=⟨s.size - (i+1),by omega⟩
  rw[o,lY,if_pos h,show s.size - (i+1)=k by omega]
 rw[n,<- p];refine bB ?_;simp only[go_sem,bn,xC,e,c9 _ _ e,m,a]
def LxF(s:z)(R:Nat×M D)(p:M gL×Int):Prop:=(∃x,R=(0,[.int .i64 p.2,x,eb p.1])\/R=(1,[.int .i64 p.2,x,eb p.1]))\/(∃a,R=(2,[.str s,a,.bool J,eb p.1])/\p.2=-1)
theorem Su{s:z}(y:s.size<=4194304):∀(m i:Nat) (out:M gL),s.size<=i+m->i<=s.size->JQ out i->∀c,(c=(0,[.str s,E (i:Int),eb out])\/c=(1,[.str s,E (i:Int),.bool J,eb out]))->
  ∃R,bK (lB G lM) c=Z R/\LxF s R (yT s m i out):=by
 have y:s.size<=mg:=by simp only[mg];omega
 have x:∀(i:Nat) (out:M gL),¬i < s.size->∀c,(c=(0,[.str s,E (i:Int),eb out])\/c=(1,[.str s,E (i:Int),.bool J,eb out]))->bK (lB G lM) c=Z (2,[.str s,E (i:Int),.bool J,eb out]):=by
  intro i out d c n;refine aF ?_;rcases n with rfl|rfl<;>simp only[go_sem,bn,lM,d]
 intro m
 induction m with
 |zero=>
  intro i out h1 h2 L c n;exact⟨_,x i out (by omega) c n,.inr ⟨_,rfl,rfl⟩⟩
 |succ m ih=>
  intro i out h1 h2 L c n;unfold yT;by_cases d:i < s.size
  ·rw[if_pos d];have T:out.length<=mg:=by
    have:bQ qi out<=2 * i:=L;simp only[bQ,mg]at *;omega
   have q:=wj d y;have r:=c9 s i d;have C:=W5 (mF s i);have B:=N_ (mF s i);have H:∀{j:Nat} {l:M gL} {E':Nat×M D} {p:M gL×Int},lB G lM c=Z (.go E')->(E'=(0,[.str s,E (j:Int),eb l])\/E'=(1,[.str s,E (j:Int),.bool J,eb l]))->i < j->j<=s.size->JQ l j->p=yT s m j l->∃R,bK (lB G lM) c=Z R/\LxF s R p:=by
    intro j l E' p g1 g2 g3 g4 g5 g6;obtain⟨R,r1,r2⟩:=ih j l (by omega) g4 g5 E' g2;exact⟨R,(bB g1).trans r1,g6▸r2⟩
   have A:∀{k:Nat} {p:M gL×Int},lB G lM c=Z (.out (k,[E (i:Int),eb out,eb []]))->(k=0\/k=1)->p=([],(i:Int))->∃R,bK (lB G lM) c=Z R/\LxF s R p:=by
    intro k p g1 g2 g3;refine⟨_,aF g1,.inl ⟨eb out,?_⟩⟩;rw[g3];rcases g2 with rfl|rfl
    ·exact .inl rfl
    ·exact .inr rfl
   obtain⟨v1,c1⟩:∃v,Z' (cr s i=32)=v:=⟨_,rfl⟩
   obtain⟨v2,o⟩:∃v,Z' (cr s i=10)=v:=⟨_,rfl⟩
   obtain⟨v3,w⟩:∃v,Z' (cr s i=35)=v:=⟨_,rfl⟩
   obtain⟨v6,t⟩:∃v,Z' (cr s i=34)=v:=⟨_,rfl⟩
   by_cases N:cr s i=32\/cr s i=10
   ·rw[if_pos N];refine H (E':=(0,[.str s,E ((i+1:Nat):Int),eb out])) ?_ (.inl rfl) (by omega) (by omega) (by unfold JQ at *;omega) rfl;cases v1
    ·cases v2
     ·simp only[decide_eq_false_iff_not]at c1 o;exact absurd N (by simp[c1,o])
     ·rcases n with rfl|rfl<;>simp only[go_sem,bn,lM,d,r,c1,o,q]
    ·rcases n with rfl|rfl<;>simp only[go_sem,bn,lM,d,r,c1,q]
   rw[if_neg N];obtain rfl:v1=J:=by rw[<- c1,decide_eq_false_iff_not];exact λh=>N (.inl h)
   obtain rfl:v2=J:=by rw[<- o,decide_eq_false_iff_not];exact λh=>N (.inr h)
   by_cases K:cr s i=35
   ·rw[if_pos K];have f:=Sr (f:=i) (out:=eb out) y d K;obtain rfl:v3=I:=by rw[<- w];simpa using K
    have e:=nt (λj=>!Z' (cr s j=10)) (s.size - i) i;have U:i < lY (λj=>!Z' (cr s j=10)) i (s.size - i):=by
     obtain⟨k,Y⟩:∃k,s.size - i=k+1:=⟨s.size - (i+1),by omega⟩
     rw[Y,lY,if_pos (by rw[K];decide)];have:=(nt (λj=>!Z' (cr s j=10)) k (i+1)).1;omega
    refine H (E':=(1,[.str s,E (lY (λj=>!Z' (cr s j=10)) i (s.size - i):Nat),.bool J,eb out])) ?_ (.inr rfl) U (by omega) (by unfold JQ at *;omega) rfl;rcases n with rfl|rfl<;>simp only[go_sem,bn,lM,d,r,c1,o,w,t,q,C,B,f]
   rw[if_neg K];obtain rfl:v3=J:=by rw[<- w,decide_eq_false_iff_not];exact K
   cases c4:fG 97 122 (cr s i)<;>rw[c4]at C
   ·rw[if_neg (by simp)];cases c5:fG 48 57 (cr s i)<;>rw[c5]at B
    ·rw[if_neg (by simp)];by_cases S:cr s i=34
     ·rw[if_pos S];obtain rfl:v6=I:=by rw[<- t];simpa using S
      have f:=aji y d;cases W:qE s s.size (i+1) with
      |none=>
       refine A (k:=0) ?_ (.inl rfl) rfl;rcases n with rfl|rfl<;>simp only[go_sem,bn,lM,d,r,c1,o,w,t,q,C,B,f,W,jG,LF]
      |some j=>
       have e:=QE W;have P:=zk s (a:=i) (b:=j) (by omega) e.2;obtain⟨b,g⟩:=amV (s:=s.extract i j) (by rw[pH s e.2];omega);have F:=apT T ⟨3,OB (s.extract i j),i⟩;have hj:Z' ((j:Int) < 0)=J:=by simp
       refine H (E':=(0,[.str s,E (j:Int),eb (out++[⟨3,OB (s.extract i j),i⟩])])) ?_ (.inl rfl) (by omega) e.2 (L.app (by omega) (aL (HH _) (by rw[pH s e.2];exact au _))) rfl;rcases n with rfl|rfl<;>simp only[go_sem,bn,lM,d,r,c1,o,w,t,q,C,B,f,W,jG,hj,P,g,aaf,F]
     ·rw[if_neg S];obtain rfl:v6=J:=by rw[<- t,decide_eq_false_iff_not];exact S
      have f:=amW y d;have e:=Ws d;by_cases V:B4 s i=0
      ·rw[if_pos V];have X:yY s i=⟨([]:M UInt8).toArray⟩:=by
        show yY s i=oP
        apply XB
        unfold yY;rw[pH s (by omega)];omega
       rw[X]at f;refine A (k:=1) ?_ (.inr rfl) rfl;rcases n with rfl|rfl<;>simp only[go_sem,bn,lM,d,r,c1,o,w,t,q,C,B,f,LF]
      ·rw[if_neg V];have Q:(yY s i).size=B4 s i:=by unfold yY;rw[pH s e];omega
       have X:Z' (yY s i=⟨([]:M UInt8).toArray⟩)=J:=by
        rw[decide_eq_false_iff_not];intro h;rw[h]at Q;exact V Q.symm
       have F:=apT T ⟨4,yY s i,i⟩;have hz:IntKind.i64.wrap ((i:Int)+((yY s i).size:Int))=((i+B4 s i:Nat):Int):=by
        rw[Q];simp only[mg]at y;rw[wrap_i64 (by omega)];omega
       refine H (E':=(0,[.str s,E ((i+B4 s i:Nat):Int),eb (out++[⟨4,yY s i,i⟩])])) ?_ (.inl rfl) (by omega) e (L.app (by omega) (by rw[Q];omega)) rfl;rcases n with rfl|rfl<;>simp only[go_sem,bn,lM,d,r,c1,o,w,t,q,C,B,f,X,aaf,F,hz]
    ·rw[if_pos rfl];have f:=Ss (f:=i) (out:=eb out) y d c5;have e:=nt (λj=>fG 48 57 (cr s j)) (s.size - i) i;have U:i < lY (λj=>fG 48 57 (cr s j)) i (s.size - i):=by
      obtain⟨k,Y⟩:∃k,s.size - i=k+1:=⟨s.size - (i+1),by omega⟩
      rw[Y,lY,if_pos c5];have:=(nt (λj=>fG 48 57 (cr s j)) k (i+1)).1;omega
     generalize lY (λj=>fG 48 57 (cr s j)) i (s.size - i)=j at *;have P:=zk s (a:=i) (b:=j) (by omega) (by omega);have F:=apT T ⟨2,s.extract i j,i⟩;refine H (E':=(0,[.str s,E (j:Int),eb (out++[⟨2,s.extract i j,i⟩])])) ?_ (.inl rfl) U (by omega) (L.app U (by rw[pH s (by omega)];exact au _)) rfl;rcases n with rfl|rfl<;>simp only[go_sem,bn,lM,d,r,c1,o,w,t,q,C,B,f,P,aaf,F]
   ·rw[if_pos rfl];have f:=amU y d c4;have e:=NQ d c4;have P:=zk s (a:=i) (b:=TW s i) (by omega) (by omega);have F:=apT T ⟨1,s.extract i (TW s i),i⟩;refine H (E':=(0,[.str s,E (TW s i:Int),eb (out++[⟨1,s.extract i (TW s i),i⟩])])) ?_ (.inl rfl) e.1 e.2 (L.app e.1 (by rw[pH s e.2];exact au _)) rfl;rcases n with rfl|rfl<;>simp only[go_sem,bn,lM,d,r,c1,o,w,t,q,C,B,f,P,aaf,F]
  ·rw[if_neg d];exact⟨_,x i out d c n,.inr ⟨_,rfl,rfl⟩⟩
theorem amX{s:z}(b:s.size<=4194304):G 395 [.str s]=Z (0,[eb (ue s).1,E (ue s).2]):=by
 obtain⟨R,a,d⟩:=Su b s.size 0 [] (by omega) (by omega) (by simp[JQ,bQ,nG]) _ (.inl rfl);rw[n0]at a;refine dd XS rfl ?_;unfold ue;generalize yT s s.size 0 []=p at *;rcases d with ⟨x,rfl|rfl⟩|⟨e,rfl,c⟩
 ·simp only[go_sem,XS,LF,a]
 ·simp only[go_sem,XS,LF,a]
 ·simp only[go_sem,XS,LF,a,c]
end
section
def oQ(L:M gL)(i:Nat)(a:Bool)(k:Int)(t:z):Bool:=!a && (match nth L i with
 |some x=>Z' (x.aw=k) && (Z' (t=oP) ||decide (x.text=t))
 |none=>J)
def tkT(L:M gL)(i:Nat):z:=match nth L i with
 |some x=>x.text
 |none=>oP
theorem jz{L:M gL}{i:Nat}{a:Bool}{k:Int}{t:z}(h:oQ L i a k t=I):i < L.length/\a=J:=by
 unfold oQ at h;rw[af]at h;refine⟨?_,by simpa using h.1⟩
 split at h
 ·rename_i x b;exact bF b
 ·cases h.2
abbrev cP(L:M gL)(i:Nat)(a:Bool)(o:Int):M D:=[eb L,.int .i64 (i:Int),.bool a,.int .i64 o]
theorem yv:(⟨([]:M UInt8).toArray⟩:z)=oP:=(rfl)
theorem agC{L:M gL}{i:Nat}{x:gL}(h:nth L i=Z x):aK (.Gv 3 0 1 I) [eb L,E (i:Int)]=Z (.list 0 J [qi x]):=by
 have a:nth (L.map qi) i=Z (qi x):=by rw[aN,h];rfl
 simp only[aK,cq,a];simp[qi,cD,D.plain]
theorem abL{L:M gL}{i:Nat}{x:gL}(h:nth L i=Z x):aK (.Gv 3 1 1 I) [eb L,E (i:Int)]=Z (.list 0 J [qi x]):=by
 have a:nth (L.map qi) i=Z (qi x):=by rw[aN,h];rfl
 simp only[aK,cq,a];simp[qi,cD,D.plain]
theorem agh{L:M gL}{i:Nat}(h:i < L.length):aK .FA [eb L,E (i:Int)]=Z (.bool J):=by
 simp only[aK,cq,aj];rw[if_pos ⟨by omega,h⟩]
section
variable {L:M gL} {i:Nat} {bad:Bool} {o:Int} (hL:L.length<=mg)
include hL
theorem ae0{k:Int}{t:z}:G 397 (cP L i bad o++[E k,.str t])=Z (0,.bool (oQ L i bad k t)::cP L i bad o):=by
 refine dd Ow rfl ?_;unfold oQ;cases bad
 ·by_cases d:i < L.length
  ·obtain⟨x,e⟩:∃x,nth L i=Z x:=⟨_,dV d⟩
   have h:=agC e;have g:=abL e;have f:=agh d;rw[e];obtain⟨a,c1⟩:∃v,Z' (x.aw=k)=v:=⟨_,rfl⟩
   obtain⟨b,l⟩:∃v,Z' (t=oP)=v:=⟨_,rfl⟩
   obtain⟨c,j⟩:∃v,Z' (x.text=t)=v:=⟨_,rfl⟩
   cases a
   ·simp only[go_sem,Ow,d,h,g,f,Co,c1,l,j,yv]
   ·cases b
    ·simp only[go_sem,Ow,d,h,g,f,Co,c1,l,j,yv]
    ·simp only[go_sem,Ow,d,h,g,f,Co,c1,l,j,yv]
  ·have m:nth L i=O:=by rw[fU];simp;omega
   rw[m];simp only[go_sem,Ow,d]
 ·simp only[go_sem,Ow]
def oB(L:M gL)(i:Nat)(bad:Bool)(k:Int):z×Nat×Bool:=if oQ L i bad k oP=I then (tkT L i,i+1,bad) else (oP,i,I)
theorem ae1{k:Int}:G 398 (cP L i bad o++[E k])=Z (0,.str (oB L i bad k).1::cP L (oB L i bad k).2.1 (oB L i bad k).2.2 o):=by
 have f:=ae0 (i:=i) (bad:=bad) (o:=o) hL (k:=k) (t:=oP);refine dd abe rfl ?_;unfold oB;simp only[cP,aq,ay]at f ⊢;cases h:oQ L i bad k oP
 ·rw[h]at f;simp only[go_sem,abe,yv,f]
 ·rw[h]at f;obtain⟨a,rfl⟩:=jz h;obtain⟨x,b⟩:∃x,nth L i=Z x:=⟨_,dV a⟩
  have j:=abL b;have g:=agh a;have c:=wj a hL;have e:=acn (i:=i) (by omega);have d:tkT L i=x.text:=by unfold tkT;rw[b]
  simp only[go_sem,abe,yv,f,c,e,g,j,Co,d]
theorem amZ{t:z}:G 400 (cP L i bad o++[.str t])=Z (0,.bool (oQ L i bad 4 t)::cP L i bad o):=by
 have f:=ae0 (i:=i) (bad:=bad) (o:=o) hL (k:=4) (t:=t);refine dd afn rfl ?_;simp only[cP,aq,ay]at f ⊢;simp only[go_sem,afn,f]
def MF(L:M gL)(i:Nat)(bad:Bool)(k:Int)(t:z):Nat:=if oQ L i bad k t=I then i+1 else i
theorem FJ{t:z}:G 401 (cP L i bad o++[.str t])=Z (0,.bool (oQ L i bad 4 t)::cP L (MF L i bad 4 t) bad o):=by
 have f:=amZ (i:=i) (bad:=bad) (o:=o) hL (t:=t);refine dd abf rfl ?_;unfold MF;simp only[cP,aq,ay]at f ⊢;cases h:oQ L i bad 4 t
 ·rw[h]at f;simp only[go_sem,abf,f]
 ·rw[h]at f;have a:=wj (jz h).1 hL;simp only[go_sem,abf,f,a]
theorem ajj{t:z}:G 402 (cP L i bad o++[.str t])=Z (0,cP L (MF L i bad 4 t) (bad ||!oQ L i bad 4 t) o):=by
 have f:=FJ (i:=i) (bad:=bad) (o:=o) hL (t:=t);refine dd abg rfl ?_;simp only[cP,aq,ay]at f ⊢;cases h:oQ L i bad 4 t
 ·rw[h]at f;cases bad<;>simp only[go_sem,abg,f]
 ·rw[h]at f;cases bad<;>simp only[go_sem,abg,f]
theorem am1:G 413 (cP L i bad o)=Z (0,.bool (!bad && Z' (i=L.length))::cP L i bad o):=by
 refine dd afo rfl ?_;obtain⟨a,c1⟩:∃v,Z' (i=L.length)=v:=⟨_,rfl⟩
 have b:Z' ((i:Int)=(L.length:Int))=a:=by rw[<- c1];exact decide_eq_decide.2 (by omega)
 cases bad<;>cases a<;>simp only[go_sem,afo,c1,b]
end
theorem amY{s:z}(a:s.size<=4194304):G 396 [.str s]=Z (0,cP (ue s).1 0 (Z' (0<=(ue s).2)) 0):=by
 have f:=amX a;refine dd afm rfl ?_;simp only[go_sem,afm,f];rfl
end
end Go.Proofs.YthlpjklbafakfaaGreatDoor
