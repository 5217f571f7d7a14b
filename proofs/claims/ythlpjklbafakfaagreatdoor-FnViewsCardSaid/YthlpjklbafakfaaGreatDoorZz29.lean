/- Part of the proof: a machine over plain data, its proof, the functions of the program run on symbols, what they answer. Condition: none. -/
import Derived.Test.YthlpjklbafakfaaGreatDoorZz04
import Derived.Test.YthlpjklbafakfaaGreatDoorZz19
import Derived.Test.YthlpjklbafakfaaGreatDoorZz27
import Derived.Test.YthlpjklbafakfaaGreatDoorZz28
set_option linter.unusedVariables false
set_option linter.unusedSimpArgs false
open Array renaming length_toList->eW
open Bool renaming or_assoc->iq,true->I,false->J
open ByteArray renaming size->nD
open List renaming length_cons->aE,getElem?_eq_some_iff->bm,take_length->bN,getElem?_append_left->dW,drop_of_length_le->eJ,ext_getElem?->fi,take_succ_cons->fE,mem_of_getElem?->gD,getElem?_set->jZ,size_toArray->nW
open List.cons renaming injEq->bZ
open Nat renaming le_refl->au,le_trans->aL,zero_add->bD,reduceLeDiff->bH,reduceEqDiff->bP,lt_of_lt_of_le->cA,zero_le->cB,reduceAdd->cL,reduceBNe->cU,lt_or_ge->dU,mul_one->pw
open Option renaming map_eq_some_iff->ak,map_some->aH,isSome_iff_exists->cn,some->Z,none->O
open Option.some renaming injEq->aa
open Prod.mk renaming injEq->aA
open Decidable renaming decide->Z'
namespace Go.Proofs.YthlpjklbafakfaaGreatDoor
set_option maxRecDepth 100000
section
open Go.RowKit
theorem HM.refl{h:Nat->Nat}{F:M Nat}{w:World}(gy:∀g,w.heap.size<=g->h g=0):HM h F w w h:=
 ⟨rfl,rfl,rfl,au _,λ_ _ _=>rfl,λ_ _ _ _=>rfl,λ_ _=>au _,λ_ _ _=>rfl,gy,λ_ h=>h⟩
theorem HM.trans{h l k:Nat->Nat}{F:M Nat}{w f e:World}(a:HM h F w f l)(b:HM l F f e k):HM h F w e k:=
 ⟨b.os.trans a.os,b.tape.trans a.tape,b.output.trans a.output,aL a.size b.size,λg c d=>(b.block g (cA c a.size) d).trans (a.block g c d),
  λg j c i=>(b.cell g j (cA c a.size) (cA i (a.mono g c))).trans (a.cell g j c i),λg c=>aL (a.mono g c) (b.mono g (cA c a.size)),
  λg c d=>(b.hold g (cA c a.size) d).trans (a.hold g c d),b.gy,λg h=>b.gW g (a.gW g h)⟩
theorem CZ{h:Nat->Nat}{w b:World}(i:b.os=w.os)(e:b.tape=w.tape)(f:b.output=w.output)(c:w.heap.size<=b.heap.size)(d:∀g,g < w.heap.size->b.heap[g]?=w.heap[g]?)(gy:∀g,w.heap.size<=g->h g=0):HM h [] w b h:=
 ⟨i,e,f,c,λg a _=>d g a,λg j a _=>World.cell?_of_block (w:=w) (d g a),λ_ _=>au _,λ_ _ _=>rfl,λg a=>gy g (aL c a),
  λg a=>⟨cA a.1 c,λj=>by rw[World.frozen?_of_block (w:=w) (d g a.1)];exact a.2 j⟩⟩
theorem A9{k:M A}{x:D}{v:Value}{w a:World}{h:Nat->Nat}{F:M Nat}{f:M Value}{j:Nat->Nat}(l:Rp a x v [])(o:HM h F w a j)(m:gq k f=[]) :
  ∃v1 i e c b,Ending.returned v=.returned v1/\YQ i v1/\ml b a [.val J [.d x]] i e/\ml b a [] (gq k f) c/\(e++c).Nodup/\(∀g∈e++c,(w.heap.size<=g\/g∈F)/\g < a.heap.size)/\HM h F w a b:=by
 refine⟨v,[v],[],[],j,rfl,.inl rfl,?_,by rw[m];exact⟨rfl,rfl⟩,by simp,λg n=>by simp at n,o⟩;simp only[ml,AR,jr,JP];exact⟨v,[],[],[],rfl,rfl,⟨[v],⟨v,[],[],[],rfl,rfl,⟨rfl,[],l,λq p=>by simp at p⟩,rfl,rfl⟩,(λh=>by cases h),λ_=>rfl⟩,rfl,rfl⟩
theorem V1(n:Int)(h:-9223372036854775808<=n/\n<=9223372036854775807):(Lib.itoa n).length<=4096:=by
 have hd:∀(k a:Nat),a < 10 ^ (k+1)->(Lib.decDigits a).length<=k+1:=by
  intro k
  induction k with
  |zero=>intro a b;rw[Lib.decDigits,dif_pos (by simpa using b)];simp
  |succ k c=>
   intro a b;rw[Lib.decDigits];split
   ·simp
   ·have:=c (a / 10) (by rw[Nat.div_lt_iff_lt_mul (by decide)];simpa [Nat.pow_succ] using b);simp
    omega
 unfold Lib.itoa;split
 ·have:=hd 19 n.natAbs (by simp;omega);simp;omega
 ·have:=hd 19 n.toNat (by simp;omega);omega
theorem yL:∀(l:M UInt8) (c:UInt8),-1<=Lib.indexByte l c/\Lib.indexByte l c<=l.length
 |[],c=>by simp[Lib.indexByte]
 |b::l,c=>by
  have a:=yL l c;simp only[Lib.indexByte,aE];split
  ·omega
  ·split<;>omega
theorem x9001(args i outs:M A)(b:XT 9001 args=Z (i,outs)):px Tryz.prog (num 9001) args i outs:=by
 simp only[XT,if_true]at b
 split at b
 ·rename_i n;simp only[aa,aA]at b;obtain⟨rfl,rfl⟩:=b;intro w h x F r j B C gy;simp only[ml,AR,jr,JP]at j;obtain⟨a,H,N,L,rfl,rfl,⟨y,⟨v1,m,K,G2,rfl,rfl,⟨rfl,G,l,_⟩,rfl,rfl⟩,_,c⟩,rfl,rfl⟩:=j;have c:=c trivial;simp only[bZ,and_true]at c;subst c;simp only[Rp]at l;obtain⟨rfl,rfl,o⟩:=l;have d:=sW o;obtain⟨s,t⟩:=cn.1 (show (Tryz.prog.globalNamed CF).isSome=I by kernel_rfl);obtain⟨_,_,f⟩:=r s t;refine Calls.mono (Tryz.strconv_Itoa n d.1 d.2 w f) λe v p=>?_;obtain⟨rfl,k,os,rfl⟩:=p;refine A9 ?_ (CZ rfl rfl rfl ?_ ?_ gy) rfl
  ·simp only[Rp];refine⟨trivial,trivial,?_⟩;have D:=V1 n d;simp only[nD,nW,maxLen];omega
  ·simp[Sort.grow]
  ·intro g q;simp only[Sort.grow,World.heap_drewN];rw[Array.getElem?_append_left q]
 ·cases b
theorem x9002(args g outs:M A)(b:XT 9002 args=Z (g,outs)):px Tryz.prog (num 9002) args g outs:=by
 simp only[XT,bP,if_false,if_true]at b
 split at b
 ·rename_i s c;simp only[aa,aA]at b;obtain⟨rfl,rfl⟩:=b;intro w h v F K i B C gy;simp only[ml,AR,jr,JP]at i;obtain⟨a,L,U,T,rfl,rfl,⟨x,⟨v1,n,S,G2,rfl,rfl,⟨rfl,G,k,_⟩,rfl,rfl⟩,_,d⟩,y,m,N,H2,rfl,rfl,⟨o,⟨v2,l,R,Q,rfl,rfl,⟨rfl,P,j,_⟩,rfl,rfl⟩,_,f⟩,rfl,rfl⟩:=i;have d:=d trivial;have f:=f trivial;simp only[bZ,and_true]at d f;subst d f;simp only[Rp]at k j;obtain⟨rfl,rfl,q⟩:=k;obtain⟨rfl,rfl,H⟩:=j;refine Calls.mono (Tryz.strings_IndexByte s c w) λe t r=>?_;obtain⟨rfl,rfl⟩:=r;refine A9 ?_ (CZ rfl rfl rfl (au _) (λ_ _=>rfl) gy) rfl;simp only[Rp];refine⟨trivial,trivial,?_⟩;have D:=yL s.data.toList c.toNat.toUInt8;have p:s.data.toList.length<=maxLen:=by rw[eW];exact q
  simp only[maxLen]at p;exact ij (by omega)
 ·cases b
theorem Du:∀(c es:M Bool) (i:Nat) (b e:Bool),c[i]?=Z b->es[i]?=Z e->(dM c (es.take i))[i]?=Z b/\dM c (es.take (i+1))=(dM c (es.take i)).set i (b ||e)/\nd c (es.take (i+1))=(nd c (es.take i) ||(e && !b))
 |[],_,_,_,_,f,_=>by simp at f
 |a::c,[],_,_,_,_,d=>by simp at d
 |a::c,x::es,0,b,e,f,d=>by
  simp only[List.getElem?_cons_zero,aa]at f d;subst f d;cases c<;>simp[dM,nd]
 |a::c,x::es,i+1,b,e,f,d=>by
  simp only[List.getElem?_cons_succ]at f d;obtain⟨j,h,g⟩:=Du c es i b e f d;simp only[fE,dM,nd,List.getElem?_cons_succ,List.set_cons_succ,j,h,g,iq,and_self]
set_option maxHeartbeats 1600000 in
theorem x9004:MQ Tryz.prog (num 9004):=by
 intro w g T a es c b o m n rest hB S F L Ni;simp only[maxLen]at Ni;have h0:kQ (gM w g (.cells ((dM a (es.take 0)).map Value.bool++rest).toArray T (0,0))) g T ((dM a (es.take 0)).map Value.bool++rest):=hB.iw T _;have C:dM a (es.take 0)=a:=by cases a<;>simp[dM]
 have A:gM w g (.cells ((dM a (es.take 0)).map Value.bool++rest).toArray T (0,0))=w:=by rw[C];exact Hz hB
 refine enter (N:=28) Tryz.func241 rfl Tryz.ntmps241 rfl ?_;refine kH ?_;refine fL ?_;refine gz wn (eD (ku ec) ?_);refine kF ?_;refine kH ?_;refine fL ?_;refine gz wn (eD (ku ec) ?_);refine kF ?_;refine kH ?_;refine kH ?_;refine fL ?_;refine gz wn (eD (iC (et (v:=.slice (Z ⟨b,o,O⟩) es.length n) rfl)) ?_);refine gz wn (eD (Mn Tryz.underlying159 (et (v:=.slice (Z ⟨b,o,O⟩) es.length n) rfl)) ?_);refine gz wn (eD (iC ec) ?_);refine kF ?_;refine zC ?_;refine OF (λG f R=>∃(i:Nat),f 0=.slice (Z ⟨g,0,O⟩) a.length c/\f 1=.slice (Z ⟨b,o,O⟩) es.length n/\f 5=.bool (nd a (es.take i))/\f 8=.int .i64 (es.length:Int)/\f 9=.int .i64 (i:Int)/\i<=es.length/\R=gM w g (.cells ((dM a (es.take i)).map Value.bool++rest).toArray T (0,0))/\G=es.length - i) (es.length - 0) ?_ ?_
 ·exact⟨0,rfl,rfl,by show Value.bool J=_;cases a<;>rfl,rfl,rfl,cB _,A.symm,rfl⟩
 rintro G Q w1 ⟨i,j,q,p,h,d,hi,rfl,rfl⟩
 refine kH ?_;refine fL ?_;by_cases K:(i:Int) < (es.length:Int)
 rotate_left
 ·refine gz wn (eD (Mo (r:=J) (et (v:=.int .i64 (i:Int)) d) (et (v:=.int .i64 (es.length:Int)) h) (abE K)) ?_);refine kF ?_;refine kH ?_;refine Be (et (v:=.bool J) rfl) ?_;refine OE ?_;refine Eq.mpr (if_pos rfl) ?_;have D:i=es.length:=by omega
  subst D;rw[bN]at p ⊢;refine kH ?_;refine fL ?_;refine gz wn (eD (iC (et (v:=.bool (nd a es)) p)) ?_);refine gz wn (eD (ku (et (v:=.bool (nd a es)) rfl)) ?_);refine kF ?_;refine Ml ?_;exact⟨_,QF (v:=.bool (nd a es)) Tryz.results241 rfl,rfl,rfl⟩
 have H:i < es.length:=by omega
 obtain⟨e,P⟩:∃e,es[i]?=Z e:=⟨es[i],by simp[H]⟩
 obtain⟨x,W⟩:∃x,a[i]?=Z x:=⟨a[i]'(by omega),by simp[show i < a.length by omega]⟩
 obtain⟨y,t,s⟩:=Du a es i x e W P;have X:=ko a (es.take i);generalize Y:dM a (es.take i)=cur at *;have l:=hB.iw T (cur.map Value.bool++rest);have V:(gM w g (.cells (cur.map Value.bool++rest).toArray T (0,0))).cell? ⟨b,o+i * 1,O⟩=Z (.bool e):=by
  rw[World.cell?_of_block (w:=w) ((FY.gM w g (cur.map Value.bool++rest).toArray T).block b F),pw];exact S i _ (by simp[P])
 have U:(gM w g (.cells (cur.map Value.bool++rest).toArray T (0,0))).cell? ⟨g,0+i * 1,O⟩=Z (.bool x):=by
  rw[l.cell,pw,bD,dW (by simp;omega)];simp[y]
 refine gz wn (eD (Mo (r:=I) (et (v:=.int .i64 (i:Int)) d) (et (v:=.int .i64 (es.length:Int)) h) (abF K)) ?_);refine kF ?_;refine kH ?_;refine E4 (et (v:=.bool I) rfl) ?_;refine xU ?_;refine kH ?_;refine zC ?_;refine kH ?_;refine fL ?_;refine gz wn (eD (iC (et (v:=.int .i64 (i:Int)) d)) ?_);refine gz wn (eD (ku (et (v:=.int .i64 (i:Int)) rfl)) ?_);refine kF ?_;refine kH ?_;refine fL ?_;refine gz wn (eD (iC (et (v:=.slice (Z ⟨b,o,O⟩) es.length n) q)) ?_);refine gz wn (eD (iC (et (v:=.int .i64 (i:Int)) rfl)) ?_);refine gz wn (eD (wg (i:=i) Tryz.underlying159 Tryz.sizeOf4 (et (v:=.slice (Z ⟨b,o,O⟩) es.length n) rfl) (et (v:=.int .i64 (i:Int)) rfl) rfl H) ?_);refine gz wn (eD (OI (v:=.bool e) Tryz.isAgg4 (et (v:=.pointer (Z ⟨b,o+i * 1,O⟩)) rfl) V) ?_);refine gz wn (eD (iC (et (v:=.bool e) rfl)) ?_);cases e with
 |false=>
  refine AU (wx rfl) ?_;refine AU (wx rfl) ?_;refine AU (wx rfl) ?_;refine AU (wx rfl) ?_;refine AU (wx rfl) ?_;refine gz wn (eD (Mp (v:=.bool J) (et (v:=.bool J) rfl) ec) ?_);refine kF ?_;refine Be (et (v:=.bool J) rfl) ?_;refine xU ?_;refine fL ?_;refine gz wn (eD (Q2 (et (v:=.int .i64 (i:Int)) d) ec (by omega)) ?_);refine gz wn (eD (iC (et (v:=.int .i64 ((i:Int)+1)) rfl)) ?_);refine kF ?_;refine⟨es.length - (i+1),by omega,i+1,j,q,?_,h,abt (by omega),by omega,?_,rfl⟩
  ·exact (show Q 5=_ from p).trans (by rw[s];simp)
  ·rw[t];have:cur.set i (x ||false)=cur:=by
    apply fi
    intro k;rw[jZ];split
    ·rename_i B;subst B;rw[y];simp;omega
    ·rfl
   rw[this]
 |true=>
  refine gz (wy rfl) (eD (iC (et (v:=.slice (Z ⟨g,0,O⟩) a.length c) j)) ?_);refine gz (wy rfl) (eD (iC (et (v:=.int .i64 (i:Int)) rfl)) ?_);refine gz (wy rfl) (eD (wg (i:=i) Tryz.underlying159 Tryz.sizeOf4 (et (v:=.slice (Z ⟨g,0,O⟩) a.length c) rfl) (et (v:=.int .i64 (i:Int)) rfl) rfl (by omega)) ?_);refine gz (wy rfl) (eD (OI (v:=.bool x) Tryz.isAgg4 (et (v:=.pointer (Z ⟨g,0+i * 1,O⟩)) rfl) U) ?_);refine gz (wy rfl) (eD (aco (b:=x) (et (v:=.bool x) rfl)) ?_);refine gz wn (eD (Mq (v:=.bool !x) (et (v:=.bool I) rfl) (et (v:=.bool !x) rfl)) ?_);refine kF ?_;cases x with
  |true=>
   refine Be (et (v:=.bool J) rfl) ?_;refine xU ?_;refine fL ?_;refine gz wn (eD (Q2 (et (v:=.int .i64 (i:Int)) d) ec (by omega)) ?_);refine gz wn (eD (iC (et (v:=.int .i64 ((i:Int)+1)) rfl)) ?_);refine kF ?_;refine⟨es.length - (i+1),by omega,i+1,j,q,?_,h,abt (by omega),by omega,?_,rfl⟩
   ·exact (show Q 5=_ from p).trans (by rw[s];simp)
   ·rw[t];have:cur.set i (I ||true)=cur:=by
     apply fi
     intro k;rw[jZ];split
     ·rename_i B;subst B;rw[y];simp;omega
     ·rfl
    rw[this]
  |false=>
   refine E4 (et (v:=.bool I) rfl) ?_;refine kH ?_;refine fL ?_;refine gz wn (eD (iC (et (v:=.slice (Z ⟨g,0,O⟩) a.length c) j)) ?_);refine gz wn (eD (iC (et (v:=.int .i64 (i:Int)) rfl)) ?_);refine gz wn (eD (wg (i:=i) Tryz.underlying159 Tryz.sizeOf4 (et (v:=.slice (Z ⟨g,0,O⟩) a.length c) rfl) (et (v:=.int .i64 (i:Int)) rfl) rfl (by omega)) ?_);refine gz wn (NU (abx (v:=.bool I) Tryz.sizeOf4 (et (v:=.pointer (Z ⟨g,0+i * 1,O⟩)) rfl) ec rfl l (by simp;omega)) ?_);refine kF ?_;refine fL ?_;refine gz wn (eD (ku ec) ?_);refine kF ?_;refine fL ?_;refine gz wn (eD (Q2 (et (v:=.int .i64 (i:Int)) d) ec (by omega)) ?_);refine gz wn (eD (iC (et (v:=.int .i64 ((i:Int)+1)) rfl)) ?_);refine kF ?_;refine⟨es.length - (i+1),by omega,i+1,j,q,?_,h,abt (by omega),by omega,?_,rfl⟩
   ·rw[s];show Value.bool I=_;simp
   ·rw[t,sn]
    congr 2
    rw[bD,pw,List.set_append_left _ _ (by simp;omega)];simp[List.map_set]
theorem aim:T_ Tryz.prog num:=⟨λ_=>x9004,λins _=>by cases ins;exact x9005;exact x9006⟩
def T0(f:Nat):u KF:=if f=333 then Z aht else O
theorem acI(a t:z)(x y:D):px Tryz.prog (num 333) [.val I [.d (.str a),.d x,.d y],.box [.d (.str t)]] [.val J [.d (.bool (Z' (a=t)))]] [.box [.d (.str t)]]:=by
 have g:fP T0 333 [.val I [.d (.str a),.d x,.d y],.box [.d (.str t)]]=Z ([.val J [.d (.bool (Z' (a=t)))]],[.box [.d (.str t)]]):=by
  rw[AW (f:=333) rfl rfl];simp -implicitDefEqProofs only [ac2,go_sem,cL,bP,bH,cU,aH]
 obtain⟨n,b⟩:=(vS T0 333 _ _).1 g;have e:∀f kf,T0 f=Z kf->YP Tryz.prog num f kf:=λf kf h=>by
  unfold T0 at h
  split at h
  ·rename_i c;cases h;rw[c];exact .of aik rfl
  ·cases h
 exact Ai (by kernel_rfl) aim e n _ _ _ _ b
theorem LG{t a:z}{c:M D}{es:M (M D)}{i r:Int}(h:SW t ((.str a::c)::es) i=Z r):(a=t/\r=i)\/(a≠t/\SW t es (i+1)=Z r):=by
 simp only[SW]at h
 split at h
 ·rename_i b;cases h;exact .inl ⟨b,rfl⟩
 ·rename_i b;exact .inr ⟨b,h⟩
theorem abv{P:Program}{b:Operand->Value}{d:u Tmp}{h:TypeId}{c:String}{e:Array Edge}{gd:u (Nat×Bool)}{w:World}{F:FuncId}{x:Operand}{g:Array Operand}{i:Array TypeId}{f a:Array Value}(l:∀(args:Array Value) (w:World),(callFunc F args).run P w=.ok (.enter F args) w)(k:b x=.func (.func F) #[] a)(j:g.map b=f) :
  (execOp b ⟨d,.call {callee:=.value x,args:=g,argTypes:=i },h,c,e,gd⟩).run P w=.ok (.enter F (f++a)) w:=by
 subst j;simp[execOp,resolve,Deferred.ofValue,k,invoke,l]
theorem adU{P:Program}{d:Operand->Value}{b:u Tmp}{e:TypeId}{a:String}{c:Array Edge}{gd:u (Nat×Bool)}{w:World}{F:FuncId}{x:Operand}{v:Value}(f:d x=v) :
  (execOp d ⟨b,.makeFunc (.func F) #[] #[x],e,a,c,gd⟩).run P w=.ok (.value (.func (.func F) #[] #[v])) w:=by
 subst f;simp[execOp,Instr.makeFunc]
set_option maxHeartbeats 1600000 in
theorem adz(t:z)(es:M (M D))(fl:Bool)(r:Int)(hr:SW t es 0=Z r)(w:World)(h:Nat->Nat)(A0:u Addr)(n c:Nat)(G:Fp)(BB:Rp w (.list 3 fl es) (.slice A0 n c) G)(lT:eM h G)(g:Nat)(T:TypeId)(q:kQ w g T [.string t])(Bx:h g=0)(hts:t.size<=maxLen)
  (gy:∀y,w.heap.size<=y->h y=0) (hgl:g < w.heap.size) (hL:TJ Tryz.prog w [g]) :
  Calls Tryz.prog 183 #[.slice A0 n c,.func (.func 184) #[] #[.pointer (Z ⟨g,0,O⟩)]] w λe w'=>e=.returned (.int .i64 r)/\IntKind.i64.wrap r=r/\∃h',HM h [g] w w' h':=by
 simp only[Rp]at BB;obtain⟨A1,n1,c1,rR,q2,q3,q4,q5,q6,q7,q8⟩:=BB;simp only[Value.slice.injEq]at rR;obtain⟨rfl,rfl,rfl⟩:=rR;have Ni:n<=maxLen:=aL q3 q4;simp only[maxLen]at Ni;refine enter (N:=19) Tryz.func183 rfl Tryz.ntmps183 rfl ?_;refine kH ?_;refine fL ?_;refine gz wn (eD (ku ec) ?_);refine kF ?_;refine kH ?_;refine kH ?_;refine fL ?_;refine gz wn (eD (iC (et (v:=.slice A0 n c) rfl)) ?_);refine gz wn (eD (Mn Tryz.underlying25 (et (v:=.slice A0 n c) rfl)) ?_);refine gz wn (eD (iC ec) ?_);refine kF ?_;refine zC ?_;refine OF (λμ f w'=>∃(i:Nat) (h':Nat->Nat) (T':TypeId),f 0=.slice A0 n c/\f 1=.func (.func 184) #[] #[.pointer (Z ⟨g,0,O⟩)]/\f 7=.int .i64 (n:Int)/\f 8=.int .i64 (i:Int)/\i<=n/\SW t (es.drop i) i=Z r/\HM h [g] w w' h'/\kQ w' g T' [.string t]/\h' g=0/\μ=n - i) (n - 0) ?_ ?_
 ·exact⟨0,h,T,rfl,rfl,rfl,rfl,cB _,by simpa using hr,HM.refl gy,q,Bx,rfl⟩
 rintro μ f1 H ⟨i,h1,T1,s0,s1,s7,s8,hi,C,x,BZ,hz1,rfl⟩
 refine kH ?_;refine fL ?_;by_cases iM:(i:Int) < (n:Int)
 rotate_left
 ·refine gz wn (eD (Mo (r:=J) (et (v:=.int .i64 (i:Int)) s8) (et (v:=.int .i64 (n:Int)) s7) (abE iM)) ?_);refine kF ?_;refine kH ?_;refine Be (et (v:=.bool J) rfl) ?_;refine OE ?_;refine Eq.mpr (if_pos rfl) ?_;refine kH ?_;refine fL ?_;refine gz wn (eD (ku ec) ?_);refine kF ?_;refine Ml ?_;have hd:es.drop i=[]:=eJ (by omega);rw[hd]at C;simp only[SW,aa]at C;subst C;exact⟨_,QF (v:=.int .i64 (-1)) Tryz.results183 rfl,rfl,rfl,h1,x⟩
 have tQ:i < n:=by omega
 obtain⟨e,Iu⟩:∃e,es[i]?=Z e:=⟨es[i]'(by omega),by simp[show i < es.length by omega]⟩
 have JV:=q7 e (gD Iu);have hde:es.drop i=e::es.drop (i+1):=ig es i e (by rw[fU];exact Iu);rw[hde]at C;rcases q8 with ⟨q8,_⟩|⟨_,b,o,xs,G1,rfl,rfl,a2,a3⟩
 ·omega
 obtain⟨GE,RM,V⟩:=a2.at_ q7 Iu;have jY:∀l∈(b,o+n * 3)::G1,∀j,j < l.2->H.cell? ⟨l.1,j,O⟩=w.cell? ⟨l.1,j,O⟩:=λl B j hj=>
  x.cell l.1 j (by
   rcases dU l.1 w.heap.size with A|A
   ·exact A
   ·have s:=lT l B;rw[gy _ A]at s;omega) (cA hj (lT l B))
 have F:fV H e ((xs.drop (i * 3)).take 3) GE:=RM.eB _ (λl B j hj=>jY l (by simp[V l B]) j hj);have VJ:eM h1 GE:=λl B=>by
  have s:=lT l (by simp[V l B]);have A:l.1 < w.heap.size:=by
   rcases dU l.1 w.heap.size with A|A
   ·exact A
   ·exact fV.lt _ RM l B
  exact aL s (x.mono _ A)
 have jd:jo H b (o+i * 3) ((xs.drop (i * 3)).take 3):=by
  have hbk:i * 3+3<=n * 3:=by omega
  have s:=a3.sub (i * 3) 3;intro j d hu;have hj:j < 3:=by
   have:=(bm.1 hu).1;simp at this;omega
  rw[jY (b,o+n * 3) (by simp) _ (by simp only;omega)];exact s j d hu
 obtain⟨L,X,W,rfl⟩:∃L X W,e=[L,X,W]:=by
  match e,JV with
  |[L,X,W],_=>exact⟨L,X,W,rfl⟩
 obtain⟨a,rfl⟩:∃a,L=.str a:=by
  cases L with
  |str a=>exact⟨a,rfl⟩
  |_=>simp[SW]at C
 refine gz wn (eD (Mo (r:=I) (et (v:=.int .i64 (i:Int)) s8) (et (v:=.int .i64 (n:Int)) s7) (abF iM)) ?_);refine kF ?_;refine kH ?_;refine E4 (et (v:=.bool I) rfl) ?_;refine xU ?_;refine kH ?_;refine zC ?_;refine kH ?_;refine fL ?_;refine gz wn (eD (iC (et (v:=.int .i64 (i:Int)) s8)) ?_);refine gz wn (eD (ku (et (v:=.int .i64 (i:Int)) rfl)) ?_);refine kF ?_;refine kH ?_;refine fL ?_;obtain⟨P,hxe⟩:∃P,(xs.drop (i * 3)).take 3=P:=⟨_,rfl⟩
 rw[hxe]at F jd;have B2:P.length=3:=fV.length _ F;refine gz wn (eD (iC (et (v:=.func (.func 184) #[] #[.pointer (Z ⟨g,0,O⟩)]) s1)) ?_);refine gz wn (eD (iC (et (v:=.slice (Z ⟨b,o,O⟩) n c) s0)) ?_);refine gz wn (eD (iC (et (v:=.int .i64 (i:Int)) rfl)) ?_);refine gz wn (eD (wg (i:=i) Tryz.underlying25 Tryz.sizeOf65 (et (v:=.slice (Z ⟨b,o,O⟩) n c) rfl) (et (v:=.int .i64 (i:Int)) rfl) rfl tQ) ?_);refine gz wn (eD (Q3 (k:=3) Tryz.isAgg65 Tryz.sizeOf65 (et (v:=.pointer (Z ⟨b,o+i * 3,O⟩)) rfl) B2 jd) ?_);have hL1:TJ Tryz.prog H [g]:=hL.step x.size (λy K hn=>x.block y K hn) (λy K=>.inr K);have ak8:g < H.heap.size:=cA hgl x.size;have rQ:=acI a t X W H h1 [.agg P.toArray,.pointer (Z ⟨g,0,O⟩)] [g] hL1 (by
   simp only[ml,AR,jr,JP];have Y:=F;simp only[fV]at Y;obtain⟨v1,t1,E1,E1',rfl,rfl,p1,v2,t2,E2,E2',rfl,rfl,p2,v3,t3,E3,E3',rfl,rfl,p3,rfl,rfl⟩:=Y;refine⟨_,_,[],[g],rfl,rfl,⟨[v1,v2,v3],⟨v1,[v2,v3],[],[],rfl,rfl,⟨rfl,E1,p1,λl q=>VJ l (by simp[q])⟩,v2,[v3],[],[],rfl,rfl,⟨rfl,E2,p2,λl q=>VJ l (by simp[q])⟩,v3,[],[],[],rfl,rfl,⟨rfl,E3,p3,λl q=>VJ l (by simp[q])⟩,rfl,rfl⟩,(λ_=>rfl),λh=>by cases h⟩,_,_,[g],[],rfl,rfl,⟨g,T1,[.string t],[],rfl,BZ,hz1,rfl,.string t,[],[],[],rfl,rfl,⟨rfl,[],?_,λl q=>by simp at q⟩,rfl,rfl⟩,rfl,rfl⟩;simp only[Rp];exact⟨trivial,trivial,hts⟩) (by simp) (λy K=>by simp at K;rw[K];exact ak8) x.gy
 refine gz wn (Ej (abv (kK Tryz.func184 rfl rfl) (et (v:=.func (.func 184) #[] #[.pointer (Z ⟨g,0,O⟩)]) rfl) (a1 (et (v:=.agg P.toArray) rfl))) rQ ?_);intro en w2 hp;obtain⟨v,us,F1,F2,h2,rfl,VH,sC,BA,_,_,ry⟩:=hp;simp only[ml,AR,jr,JP]at sC;obtain⟨d,vs1,H1,H2,rfl,_,⟨us1,⟨v1,vs2,H3,H4,S,_,⟨_,GR,RO,_⟩,RR,_⟩,_,m⟩,rfl,_⟩:=sC;have m:=m trivial;rw[RR]at S;rw[S]at m;simp only[bZ,and_true]at m;subst m;simp only[Rp]at RO;have hv:v=.bool (Z' (a=t)):=by
  rcases VH with h|⟨h,_⟩
  ·simp only[bZ,and_true]at h;rw[<- h];exact RO.1
  ·simp at h
 subst hv;simp only[gq,ml,AR,jr,JP]at BA;obtain⟨u2,vs3,H5,H6,R,_,⟨g2,T2,vs4,F3,U,Ar,VN,_,v2,vs5,H7,H8,Q,_,⟨_,GS,Lm,_⟩,hv5,_⟩,_,_⟩:=BA;simp only[bZ]at R;obtain⟨rfl,rfl⟩:=R;simp only[Value.pointer.injEq,aa,Addr.mk.injEq,and_true]at U;subst U;simp only[Rp]at Lm;subst hv5;rw[Lm.1]at Q;subst Q;have oF:HM h [g] w w2 h2:=x.trans ry;refine⟨_,rfl,?_⟩;refine kF ?_;by_cases Zu:a=t
 ·have p:=LG C;rcases p with ⟨_,rfl⟩|⟨s,_⟩
  ·refine E4 (et (v:=.bool I) (by simp[FQ,Zu])) ?_;refine kH ?_;refine fL ?_;refine gz wn (eD (iC (et (v:=.int .i64 (i:Int)) rfl)) ?_);refine gz wn (eD (ku (et (v:=.int .i64 (i:Int)) rfl)) ?_);refine kF ?_;refine Ml ?_;exact⟨_,QF (v:=.int .i64 (i:Int)) Tryz.results183 rfl,rfl,ij (by omega),h2,oF⟩
  ·exact absurd Zu s
 ·have p:=LG C;rcases p with ⟨s,_⟩|⟨_,p⟩
  ·exact absurd s Zu
  ·refine Be (et (v:=.bool J) (by simp[FQ,Zu])) ?_;refine xU ?_;refine fL ?_;refine gz wn (eD (Q2 (et (v:=.int .i64 (i:Int)) s8) ec (by omega)) ?_);refine gz wn (eD (iC (et (v:=.int .i64 ((i:Int)+1)) rfl)) ?_);refine kF ?_;exact⟨n - (i+1),by omega,i+1,h2,T2,s0,s1,s7,abt (by omega),by omega,by simpa using p,oF,Ar,VN,rfl⟩
theorem x9003(args Q outs:M A)(p:XT 9003 args=Z (Q,outs)):px Tryz.prog (num 9003) args Q outs:=by
 simp only[XT,bP,if_false,if_true]at p
 split at p
 ·rename_i T es t;simp only[ak,aA]at p;obtain⟨r,hr,rfl,rfl⟩:=p;intro w h vs F hL R mb iM gy;simp only[ml,AR,jr,JP]at R;obtain⟨a,fK,F1,F2,rfl,rfl,⟨us,⟨v1,Y,G1,G2,rfl,rfl,⟨rfl,G,P,lT⟩,rfl,rfl⟩,_,x⟩,u2,X,H1,H2,rfl,rfl,⟨us2,⟨v2,W,G3,G4,rfl,rfl,⟨rfl,G5,U,_⟩,rfl,rfl⟩,_,y⟩,rfl,rfl⟩:=R;have x:=x trivial;have y:=y trivial;simp only[bZ,and_true]at x y;subst x y;have q:=P;simp only[Rp]at P U;obtain⟨l,n,c,rfl,_⟩:=P;obtain⟨rfl,rfl,C⟩:=U;refine enter (N:=8) Tryz.func152 rfl Tryz.ntmps152 rfl ?_;refine kH ?_;refine fL ?_;have nE:∀{B:TypeId} {m:String} {o:Array Edge} {gd:u (Nat×Bool)},(execOp (fr (λi=>#[Value.slice l n c,Value.string t].getD i undef) 8).eval ⟨Z 3,.box 9 (.tmp 1),B,m,o,gd⟩).run Tryz.prog w=.ok (.value (.pointer (Z ⟨w.heap.size,0,O⟩))) (w.alloc (.cells [Value.string t].toArray 9)):=by
   intro B m o gd;have h0:(fr (λi=>#[Value.slice l n c,Value.string t].getD i undef) 8).eval (.tmp 1)=.string t:=et rfl;have S:(execOp (fr (λi=>#[Value.slice l n c,Value.string t].getD i undef) 8).eval ⟨Z 3,.box 9 (.tmp 1),B,m,o,gd⟩).run Tryz.prog w=.ok (.value (.pointer (Z ⟨w.heap.size,0,O⟩))) (w.alloc (.cells ((fr (λi=>#[Value.slice l n c,Value.string t].getD i undef) 8).eval (.tmp 1)).cells 9)):=by
    simp[execOp,Instr.box,newVar,newRow,newObj,Sem.run]
   rw[h0]at S;exact S
  refine gz wn (LO nE ?_);intro s hs1 k hB;refine gz wn (eD (ku ec) ?_);refine kF ?_;refine kH ?_;refine fL ?_;refine gz wn (eD (iC (et (v:=.slice l n c) rfl)) ?_);refine gz wn (eD (adU (et (v:=.pointer (Z ⟨w.heap.size,0,O⟩)) rfl)) ?_);have f:HM h [] w s h:=CZ k.os k.tape k.output k.size (λg b=>k.block g b) gy;have RO:Rp s (.list 3 T es) (.slice l n c) G:=q.eB _ (λbe hb j H=>World.cell?_of_block (w:=w) (k.block _ (Rp.lt _ q be hb)));have L:TJ Tryz.prog s [w.heap.size]:=hL.step k.size (λg b _=>k.block g b) (λg b=>by simp at b;omega);have rQ:=adz t es T r hr s h l n c G RO lT w.heap.size 9 hB (gy _ (au _)) C f.gy (by omega) L;refine gz wn (Ej (Bh (kK Tryz.func183 rfl rfl) rfl (a2 (et (v:=.slice l n c) rfl) (et (v:=.func (.func 184) #[] #[.pointer (Z ⟨w.heap.size,0,O⟩)]) rfl))) rQ ?_)
  rintro e V ⟨rfl,D,h2,d⟩
  refine⟨_,rfl,?_⟩;refine gz wn (eD (ku (et (v:=.int .i64 r) rfl)) ?_);refine kF ?_;refine Ml ?_;refine⟨_,QF (v:=.int .i64 r) Tryz.results152 rfl,?_⟩;have K:HM h [] w V h2:=⟨d.os.trans f.os,d.tape.trans f.tape,d.output.trans f.output,aL f.size d.size,
   λg b _=>(d.block g (by omega) (by simp;omega)).trans (f.block g b (by simp)),λg j b H=>(d.cell g j (by omega) H).trans (f.cell g j b H),
   λg b=>d.mono g (by omega),λg b _=>d.hold g (by omega) (by simp;omega),d.gy,λg b=>d.gW g (f.gW g b)⟩
  exact A9 (by simp only[Rp];exact⟨trivial,trivial,D⟩) K rfl
 ·cases p
end
end Go.Proofs.YthlpjklbafakfaaGreatDoor
