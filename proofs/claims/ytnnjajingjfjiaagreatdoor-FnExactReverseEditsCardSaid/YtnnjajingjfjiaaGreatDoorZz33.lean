/- Part of the proof: a machine over plain data, its proof, the functions of the program run on symbols, what they answer. Condition: none. -/
import Derived.Test.YtnnjajingjfjiaaGreatDoorZz04
import Derived.Test.YtnnjajingjfjiaaGreatDoorZz27
import Derived.Test.YtnnjajingjfjiaaGreatDoorZz31
import Derived.Test.YtnnjajingjfjiaaGreatDoorZz32
set_option linter.unusedVariables false
set_option linter.unusedSimpArgs false
open Array renaming length_toList->eQ
open Bool renaming or_assoc->hY,true->I,false->J
open ByteArray renaming size->og
open List renaming length_cons->aH,take_length->aR,getElem?_eq_some_iff->bq,take_succ_cons->cn,getElem?_append_left->dr,mem_of_getElem?->dS,ext_getElem?->eE,drop_of_length_le->fN,getElem?_set->jT,set_cons_succ->lr,size_toArray->oQ,map_set->rK
open List.cons renaming injEq->cl
open Nat renaming reduceEqDiff->aA,le_refl->aD,le_trans->aG,reduceLeDiff->bl,zero_add->bo,reduceBNe->bz,reduceAdd->bF,lt_of_lt_of_le->bR,lt_or_ge->dD,zero_le->jt,mul_one->qD,pow_succ->xO
open Option renaming map_eq_some_iff->ak,map_some->aQ,isSome_iff_exists->cD,some->Z,none->O
open Option.some renaming injEq->ae
open Prod.mk renaming injEq->aI
open Decidable renaming decide->Z'
namespace Go.Proofs.YtnnjajingjfjiaaGreatDoor
set_option maxRecDepth 100000
section
open Go.RowKit
theorem CK.refl{h:Nat->Nat}{F:M Nat}{w:World}(fQ:∀g,w.heap.size<=g->h g=0):CK h F w w h:=
 ⟨rfl,rfl,rfl,aD _,λ_ _ _=>rfl,λ_ _ _ _=>rfl,λ_ _=>aD _,λ_ _ _=>rfl,fQ,λ_ h=>h⟩
theorem CK.trans{h l k:Nat->Nat}{F:M Nat}{w f e:World}(a:CK h F w f l)(b:CK l F f e k):CK h F w e k:=
 ⟨b.os.trans a.os,b.tape.trans a.tape,b.output.trans a.output,aG a.size b.size,λg c d=>(b.block g (bR c a.size) d).trans (a.block g c d),
  λg j c i=>(b.cell g j (bR c a.size) (bR i (a.mono g c))).trans (a.cell g j c i),λg c=>aG (a.mono g c) (b.mono g (bR c a.size)),
  λg c d=>(b.hold g (bR c a.size) d).trans (a.hold g c d),b.fQ,λg h=>b.fR g (a.fR g h)⟩
theorem EA{h:Nat->Nat}{w b:World}(i:b.os=w.os)(e:b.tape=w.tape)(f:b.output=w.output)(c:w.heap.size<=b.heap.size)(d:∀g,g < w.heap.size->b.heap[g]?=w.heap[g]?)(fQ:∀g,w.heap.size<=g->h g=0):CK h [] w b h:=
 ⟨i,e,f,c,λg a _=>d g a,λg j a _=>World.cell?_of_block (w:=w) (d g a),λ_ _=>aD _,λ_ _ _=>rfl,λg a=>fQ g (aG c a),
  λg a=>⟨bR a.1 c,λj=>by rw[World.frozen?_of_block (w:=w) (d g a.1)];exact a.2 j⟩⟩
theorem Cu{k:M A}{x:D}{v:Value}{w a:World}{h:Nat->Nat}{F:M Nat}{f:M Value}{j:Nat->Nat}(l:Rp a x v [])(o:CK h F w a j)(m:il k f=[]) :
  ∃v1 i e c b,Ending.returned v=.returned v1/\aaS i v1/\na b a [.val J [.d x]] i e/\na b a [] (il k f) c/\(e++c).Nodup/\(∀g∈e++c,(w.heap.size<=g\/g∈F)/\g < a.heap.size)/\CK h F w a b:=by
 refine⟨v,[v],[],[],j,rfl,.inl rfl,?_,by rw[m];exact⟨rfl,rfl⟩,by simp,λg n=>by simp at n,o⟩;simp only[na,AR,iZ,Ik];exact⟨v,[],[],[],rfl,rfl,⟨[v],⟨v,[],[],[],rfl,rfl,⟨rfl,[],l,λq p=>by simp at p⟩,rfl,rfl⟩,(λh=>by cases h),λ_=>rfl⟩,rfl,rfl⟩
theorem YS(n:Int)(h:-9223372036854775808<=n/\n<=9223372036854775807):(Lib.itoa n).length<=4096:=by
 have hd:∀(k a:Nat),a < 10 ^ (k+1)->(Lib.decDigits a).length<=k+1:=by
  intro k
  induction k with
  |zero=>intro a b;rw[Lib.decDigits,dif_pos (by simpa using b)];simp
  |succ k c=>
   intro a b;rw[Lib.decDigits];split
   ·simp
   ·have:=c (a / 10) (by rw[Nat.div_lt_iff_lt_mul (by decide)];simpa [xO] using b);simp
    omega
 unfold Lib.itoa;split
 ·have:=hd 19 n.natAbs (by simp;omega);simp;omega
 ·have:=hd 19 n.toNat (by simp;omega);omega
theorem Ay:∀(l:M UInt8) (c:UInt8),-1<=Lib.indexByte l c/\Lib.indexByte l c<=l.length
 |[],c=>by simp[Lib.indexByte]
 |b::l,c=>by
  have a:=Ay l c;simp only[Lib.indexByte,aH];split
  ·omega
  ·split<;>omega
theorem x9001(args j outs:M A)(b:XT 9001 args=Z (j,outs)):pz Tryz.prog (num 9001) args j outs:=by
 simp only[XT,if_true]at b
 split at b
 ·rename_i n;simp only[ae,aI]at b;obtain⟨rfl,rfl⟩:=b;intro w h x F r l B H fQ;simp only[na,AR,iZ,Ik]at l;obtain⟨a,D,N,L,rfl,rfl,⟨y,⟨v1,m,K,G2,rfl,rfl,⟨rfl,G,i,_⟩,rfl,rfl⟩,_,c⟩,rfl,rfl⟩:=l;have c:=c trivial;simp only[cl,and_true]at c;subst c;simp only[Rp]at i;obtain⟨rfl,rfl,o⟩:=i;have d:=BN o;obtain⟨s,t⟩:=cD.1 (show (Tryz.prog.globalNamed xJ).isSome=I by kernel_rfl);obtain⟨_,_,f⟩:=r s t;refine Calls.mono (Tryz.strconv_Itoa n d.1 d.2 w f) λe v p=>?_;obtain⟨rfl,k,os,rfl⟩:=p;refine Cu ?_ (EA rfl rfl rfl ?_ ?_ fQ) rfl
  ·simp only[Rp];refine⟨trivial,trivial,?_⟩;have C:=YS n d;simp only[og,oQ,maxLen];omega
  ·simp[Sort.grow]
  ·intro g q;simp only[Sort.grow,World.heap_drewN];rw[Array.getElem?_append_left q]
 ·cases b
theorem x9002(args i outs:M A)(b:XT 9002 args=Z (i,outs)):pz Tryz.prog (num 9002) args i outs:=by
 simp only[XT,aA,if_false,if_true]at b
 split at b
 ·rename_i s c;simp only[ae,aI]at b;obtain⟨rfl,rfl⟩:=b;intro w h v F H j B L fQ;simp only[na,AR,iZ,Ik]at j;obtain⟨a,K,U,T,rfl,rfl,⟨x,⟨v1,n,S,G2,rfl,rfl,⟨rfl,G,g,_⟩,rfl,rfl⟩,_,d⟩,y,m,N,H2,rfl,rfl,⟨o,⟨v2,l,R,Q,rfl,rfl,⟨rfl,P,k,_⟩,rfl,rfl⟩,_,f⟩,rfl,rfl⟩:=j;have d:=d trivial;have f:=f trivial;simp only[cl,and_true]at d f;subst d f;simp only[Rp]at g k;obtain⟨rfl,rfl,q⟩:=g;obtain⟨rfl,rfl,D⟩:=k;refine Calls.mono (Tryz.strings_IndexByte s c w) λe t r=>?_;obtain⟨rfl,rfl⟩:=r;refine Cu ?_ (EA rfl rfl rfl (aD _) (λ_ _=>rfl) fQ) rfl;simp only[Rp];refine⟨trivial,trivial,?_⟩;have C:=Ay s.data.toList c.toNat.toUInt8;have p:s.data.toList.length<=maxLen:=by rw[eQ];exact q
  simp only[maxLen]at p;exact bH (by omega)
 ·cases b
theorem Fj:∀(c es:M Bool) (i:Nat) (b e:Bool),c[i]?=Z b->es[i]?=Z e->(dK c (es.take i))[i]?=Z b/\dK c (es.take (i+1))=(dK c (es.take i)).set i (b ||e)/\nQ c (es.take (i+1))=(nQ c (es.take i) ||(e && !b))
 |[],_,_,_,_,f,_=>by simp at f
 |a::c,[],_,_,_,_,d=>by simp at d
 |a::c,x::es,0,b,e,f,d=>by
  simp only[List.getElem?_cons_zero,ae]at f d;subst f d;cases c<;>simp[dK,nQ]
 |a::c,x::es,i+1,b,e,f,d=>by
  simp only[List.getElem?_cons_succ]at f d;obtain⟨j,h,g⟩:=Fj c es i b e f d;simp only[cn,dK,nQ,List.getElem?_cons_succ,lr,j,h,g,hY,and_self]
set_option maxHeartbeats 1600000 in
theorem x9004:PL Tryz.prog (num 9004):=by
 intro w g T a es c b o m n rest hB S F K Y;simp only[maxLen]at Y;have h0:kJ (gy w g (.cells ((dK a (es.take 0)).map Value.bool++rest).toArray T (0,0))) g T ((dK a (es.take 0)).map Value.bool++rest):=hB.iq T _;have C:dK a (es.take 0)=a:=by cases a<;>simp[dK]
 have A:gy w g (.cells ((dK a (es.take 0)).map Value.bool++rest).toArray T (0,0))=w:=by rw[C];exact Jx hB
 refine enter (N:=28) Tryz.func276 rfl Tryz.ntmps276 rfl ?_;refine jR ?_;refine fg ?_;refine gf wn (eo (jI ec) ?_);refine j9 ?_;refine jR ?_;refine fg ?_;refine gf wn (eo (jI ec) ?_);refine j9 ?_;refine jR ?_;refine jR ?_;refine fg ?_;refine gf wn (eo (gY (et (v:=.slice (Z ⟨b,o,O⟩) es.length n) rfl)) ?_);refine gf wn (eo (JF Tryz.underlying214 (et (v:=.slice (Z ⟨b,o,O⟩) es.length n) rfl)) ?_);refine gf wn (eo (gY ec) ?_);refine j9 ?_;refine xL ?_;refine Mo (λG f R=>∃(i:Nat),f 0=.slice (Z ⟨g,0,O⟩) a.length c/\f 1=.slice (Z ⟨b,o,O⟩) es.length n/\f 5=.bool (nQ a (es.take i))/\f 8=.int .i64 (es.length:Int)/\f 9=.int .i64 (i:Int)/\i<=es.length/\R=gy w g (.cells ((dK a (es.take i)).map Value.bool++rest).toArray T (0,0))/\G=es.length - i) (es.length - 0) ?_ ?_
 ·exact⟨0,rfl,rfl,by show Value.bool J=_;cases a<;>rfl,rfl,rfl,jt _,A.symm,rfl⟩
 rintro G P w1 ⟨i,j,q,p,h,d,hi,rfl,rfl⟩
 refine jR ?_;refine fg ?_;by_cases Q:(i:Int) < (es.length:Int)
 rotate_left
 ·refine gf wn (eo (Pl (r:=J) (et (v:=.int .i64 (i:Int)) d) (et (v:=.int .i64 (es.length:Int)) h) (adw Q)) ?_);refine j9 ?_;refine jR ?_;refine zk (et (v:=.bool J) rfl) ?_;refine Mn ?_;refine Eq.mpr (if_pos rfl) ?_;have D:i=es.length:=by omega
  subst D;rw[aR]at p ⊢;refine jR ?_;refine fg ?_;refine gf wn (eo (gY (et (v:=.bool (nQ a es)) p)) ?_);refine gf wn (eo (jI (et (v:=.bool (nQ a es)) rfl)) ?_);refine j9 ?_;refine JE ?_;exact⟨_,Jo (v:=.bool (nQ a es)) Tryz.results276 rfl,rfl,rfl⟩
 have H:i < es.length:=by omega
 obtain⟨e,L⟩:∃e,es[i]?=Z e:=⟨es[i],by simp[H]⟩
 obtain⟨x,W⟩:∃x,a[i]?=Z x:=⟨a[i]'(by omega),by simp[show i < a.length by omega]⟩
 obtain⟨y,t,s⟩:=Fj a es i x e W L;have UU:=j8 a (es.take i);generalize X:dK a (es.take i)=cur at *;have l:=hB.iq T (cur.map Value.bool++rest);have V:(gy w g (.cells (cur.map Value.bool++rest).toArray T (0,0))).cell? ⟨b,o+i * 1,O⟩=Z (.bool e):=by
  rw[World.cell?_of_block (w:=w) ((Ii.gy w g (cur.map Value.bool++rest).toArray T).block b F),qD];exact S i _ (by simp[L])
 have U:(gy w g (.cells (cur.map Value.bool++rest).toArray T (0,0))).cell? ⟨g,0+i * 1,O⟩=Z (.bool x):=by
  rw[l.cell,qD,bo,dr (by simp;omega)];simp[y]
 refine gf wn (eo (Pl (r:=I) (et (v:=.int .i64 (i:Int)) d) (et (v:=.int .i64 (es.length:Int)) h) (adx Q)) ?_);refine j9 ?_;refine jR ?_;refine CB (et (v:=.bool I) rfl) ?_;refine zm ?_;refine jR ?_;refine xL ?_;refine jR ?_;refine fg ?_;refine gf wn (eo (gY (et (v:=.int .i64 (i:Int)) d)) ?_);refine gf wn (eo (jI (et (v:=.int .i64 (i:Int)) rfl)) ?_);refine j9 ?_;refine jR ?_;refine fg ?_;refine gf wn (eo (gY (et (v:=.slice (Z ⟨b,o,O⟩) es.length n) q)) ?_);refine gf wn (eo (gY (et (v:=.int .i64 (i:Int)) rfl)) ?_);refine gf wn (eo (u_ (i:=i) Tryz.underlying214 Tryz.sizeOf4 (et (v:=.slice (Z ⟨b,o,O⟩) es.length n) rfl) (et (v:=.int .i64 (i:Int)) rfl) rfl H) ?_);refine gf wn (eo (Mq (v:=.bool e) Tryz.isAgg4 (et (v:=.pointer (Z ⟨b,o+i * 1,O⟩)) rfl) V) ?_);refine gf wn (eo (gY (et (v:=.bool e) rfl)) ?_);cases e with
 |false=>
  refine Ch (wx rfl) ?_;refine Ch (wx rfl) ?_;refine Ch (wx rfl) ?_;refine Ch (wx rfl) ?_;refine Ch (wx rfl) ?_;refine gf wn (eo (Pm (v:=.bool J) (et (v:=.bool J) rfl) ec) ?_);refine j9 ?_;refine zk (et (v:=.bool J) rfl) ?_;refine zm ?_;refine fg ?_;refine gf wn (eo (Uj (et (v:=.int .i64 (i:Int)) d) ec (by omega)) ?_);refine gf wn (eo (gY (et (v:=.int .i64 ((i:Int)+1)) rfl)) ?_);refine j9 ?_;refine⟨es.length - (i+1),by omega,i+1,j,q,?_,h,adl (by omega),by omega,?_,rfl⟩
  ·exact (show P 5=_ from p).trans (by rw[s];simp)
  ·rw[t];have:cur.set i (x ||false)=cur:=by
    apply eE
    intro k;rw[jT];split
    ·rename_i B;subst B;rw[y];simp;omega
    ·rfl
   rw[this]
 |true=>
  refine gf (wy rfl) (eo (gY (et (v:=.slice (Z ⟨g,0,O⟩) a.length c) j)) ?_);refine gf (wy rfl) (eo (gY (et (v:=.int .i64 (i:Int)) rfl)) ?_);refine gf (wy rfl) (eo (u_ (i:=i) Tryz.underlying214 Tryz.sizeOf4 (et (v:=.slice (Z ⟨g,0,O⟩) a.length c) rfl) (et (v:=.int .i64 (i:Int)) rfl) rfl (by omega)) ?_);refine gf (wy rfl) (eo (Mq (v:=.bool x) Tryz.isAgg4 (et (v:=.pointer (Z ⟨g,0+i * 1,O⟩)) rfl) U) ?_);refine gf (wy rfl) (eo (ad_ (b:=x) (et (v:=.bool x) rfl)) ?_);refine gf wn (eo (Pn (v:=.bool !x) (et (v:=.bool I) rfl) (et (v:=.bool !x) rfl)) ?_);refine j9 ?_;cases x with
  |true=>
   refine zk (et (v:=.bool J) rfl) ?_;refine zm ?_;refine fg ?_;refine gf wn (eo (Uj (et (v:=.int .i64 (i:Int)) d) ec (by omega)) ?_);refine gf wn (eo (gY (et (v:=.int .i64 ((i:Int)+1)) rfl)) ?_);refine j9 ?_;refine⟨es.length - (i+1),by omega,i+1,j,q,?_,h,adl (by omega),by omega,?_,rfl⟩
   ·exact (show P 5=_ from p).trans (by rw[s];simp)
   ·rw[t];have:cur.set i (I ||true)=cur:=by
     apply eE
     intro k;rw[jT];split
     ·rename_i B;subst B;rw[y];simp;omega
     ·rfl
    rw[this]
  |false=>
   refine CB (et (v:=.bool I) rfl) ?_;refine jR ?_;refine fg ?_;refine gf wn (eo (gY (et (v:=.slice (Z ⟨g,0,O⟩) a.length c) j)) ?_);refine gf wn (eo (gY (et (v:=.int .i64 (i:Int)) rfl)) ?_);refine gf wn (eo (u_ (i:=i) Tryz.underlying214 Tryz.sizeOf4 (et (v:=.slice (Z ⟨g,0,O⟩) a.length c) rfl) (et (v:=.int .i64 (i:Int)) rfl) rfl (by omega)) ?_);refine gf wn (LK (ado (v:=.bool I) Tryz.sizeOf4 (et (v:=.pointer (Z ⟨g,0+i * 1,O⟩)) rfl) ec rfl l (by simp;omega)) ?_);refine j9 ?_;refine fg ?_;refine gf wn (eo (jI ec) ?_);refine j9 ?_;refine fg ?_;refine gf wn (eo (Uj (et (v:=.int .i64 (i:Int)) d) ec (by omega)) ?_);refine gf wn (eo (gY (et (v:=.int .i64 ((i:Int)+1)) rfl)) ?_);refine j9 ?_;refine⟨es.length - (i+1),by omega,i+1,j,q,?_,h,adl (by omega),by omega,?_,rfl⟩
   ·rw[s];show Value.bool I=_;simp
   ·rw[t,tU]
    congr 2
    rw[bo,qD,List.set_append_left _ _ (by simp;omega)];simp[rK]
theorem acn:Ur Tryz.prog num:=⟨λ_=>x9004,λins _=>by cases ins;exact x9005;exact x9006⟩
def T0(f:Nat):u KF:=if f=333 then Z ajr else O
theorem aek(a t:z)(x y:D):pz Tryz.prog (num 333) [.val I [.d (.str a),.d x,.d y],.box [.d (.str t)]] [.val J [.d (.bool (Z' (a=t)))]] [.box [.d (.str t)]]:=by
 have i:dM T0 333 [.val I [.d (.str a),.d x,.d y],.box [.d (.str t)]]=Z ([.val J [.d (.bool (Z' (a=t)))]],[.box [.d (.str t)]]):=by
  rw[lj (f:=333) rfl rfl];simp -implicitDefEqProofs only [Yc,go_sem,bF,aA,bl,bz,aQ]
 obtain⟨n,c⟩:=(xB T0 333 _ _).1 i;have g:∀f b,T0 f=Z b->OkK Tryz.prog num f b:=λf b h=>by
  unfold T0 at h
  split at h
  ·rename_i e;cases h;rw[e];exact .of ako rfl
  ·cases h
 exact xp (by kernel_rfl) acn g n _ _ _ _ c
theorem Ov{t a:z}{c:M D}{es:M (M D)}{i r:Int}(h:VK t ((.str a::c)::es) i=Z r):(a=t/\r=i)\/(a≠t/\VK t es (i+1)=Z r):=by
 simp only[VK]at h
 split at h
 ·rename_i b;cases h;exact .inl ⟨b,rfl⟩
 ·rename_i b;exact .inr ⟨b,h⟩
theorem adn{P:Program}{b:Operand->Value}{d:u Tmp}{h:TypeId}{c:String}{e:Array Edge}{gd:u (Nat×Bool)}{w:World}{F:FuncId}{x:Operand}{g:Array Operand}{i:Array TypeId}{f a:Array Value}(l:∀(args:Array Value) (w:World),(callFunc F args).run P w=.ok (.enter F args) w)(k:b x=.func (.func F) #[] a)(j:g.map b=f) :
  (execOp b ⟨d,.call {callee:=.value x,args:=g,argTypes:=i },h,c,e,gd⟩).run P w=.ok (.enter F (f++a)) w:=by
 subst j;simp[execOp,resolve,Deferred.ofValue,k,invoke,l]
theorem afi{P:Program}{d:Operand->Value}{b:u Tmp}{e:TypeId}{a:String}{c:Array Edge}{gd:u (Nat×Bool)}{w:World}{F:FuncId}{x:Operand}{v:Value}(f:d x=v) :
  (execOp d ⟨b,.makeFunc (.func F) #[] #[x],e,a,c,gd⟩).run P w=.ok (.value (.func (.func F) #[] #[v])) w:=by
 subst f;simp[execOp,Instr.makeFunc]
set_option maxHeartbeats 1600000 in
theorem ae1(t:z)(es:M (M D))(fl:Bool)(r:Int)(hr:VK t es 0=Z r)(w:World)(h:Nat->Nat)(A0:u Addr)(n c:Nat)(G:Fp)(zA:Rp w (.list 3 fl es) (.slice A0 n c) G)(lg:eI h G)(g:Nat)(T:TypeId)(p:kJ w g T [.string t])(CV:h g=0)(hts:t.size<=maxLen)
  (fQ:∀y,w.heap.size<=y->h y=0) (hgl:g < w.heap.size) (hL:R8 Tryz.prog w [g]) :
  Calls Tryz.prog 229 #[.slice A0 n c,.func (.func 230) #[] #[.pointer (Z ⟨g,0,O⟩)]] w λe w'=>e=.returned (.int .i64 r)/\IntKind.i64.wrap r=r/\∃h',CK h [g] w w' h':=by
 simp only[Rp]at zA;obtain⟨A1,n1,c1,xu,q2,q3,q4,q5,q6,q7,q8⟩:=zA;simp only[Value.slice.injEq]at xu;obtain⟨rfl,rfl,rfl⟩:=xu;have Qy:n<=maxLen:=aG q3 q4;simp only[maxLen]at Qy;refine enter (N:=19) Tryz.func229 rfl Tryz.ntmps229 rfl ?_;refine jR ?_;refine fg ?_;refine gf wn (eo (jI ec) ?_);refine j9 ?_;refine jR ?_;refine jR ?_;refine fg ?_;refine gf wn (eo (gY (et (v:=.slice A0 n c) rfl)) ?_);refine gf wn (eo (JF Tryz.underlying29 (et (v:=.slice A0 n c) rfl)) ?_);refine gf wn (eo (gY ec) ?_);refine j9 ?_;refine xL ?_;refine Mo (λμ f w'=>∃(i:Nat) (h':Nat->Nat) (T':TypeId),f 0=.slice A0 n c/\f 1=.func (.func 230) #[] #[.pointer (Z ⟨g,0,O⟩)]/\f 7=.int .i64 (n:Int)/\f 8=.int .i64 (i:Int)/\i<=n/\VK t (es.drop i) i=Z r/\CK h [g] w w' h'/\kJ w' g T' [.string t]/\h' g=0/\μ=n - i) (n - 0) ?_ ?_
 ·exact⟨0,h,T,rfl,rfl,rfl,rfl,jt _,by simpa using hr,CK.refl fQ,p,CV,rfl⟩
 rintro μ f1 F ⟨i,h1,T1,s0,s1,s7,s8,hi,B,s,BH,Dt,rfl⟩
 refine jR ?_;refine fg ?_;by_cases dR:(i:Int) < (n:Int)
 rotate_left
 ·refine gf wn (eo (Pl (r:=J) (et (v:=.int .i64 (i:Int)) s8) (et (v:=.int .i64 (n:Int)) s7) (adw dR)) ?_);refine j9 ?_;refine jR ?_;refine zk (et (v:=.bool J) rfl) ?_;refine Mn ?_;refine Eq.mpr (if_pos rfl) ?_;refine jR ?_;refine fg ?_;refine gf wn (eo (jI ec) ?_);refine j9 ?_;refine JE ?_;have hd:es.drop i=[]:=fN (by omega);rw[hd]at B;simp only[VK,ae]at B;subst B;exact⟨_,Jo (v:=.int .i64 (-1)) Tryz.results229 rfl,rfl,rfl,h1,s⟩
 have mG:i < n:=by omega
 obtain⟨e,Kg⟩:∃e,es[i]?=Z e:=⟨es[i]'(by omega),by simp[show i < es.length by omega]⟩
 have BJ:=q7 e (dS Kg);have hde:es.drop i=e::es.drop (i+1):=eg es i e (by rw[ef];exact Kg);rw[hde]at B;rcases q8 with ⟨q8,_⟩|⟨_,b,o,xs,G1,rfl,rfl,a2,a3⟩
 ·omega
 obtain⟨GE,U2,U⟩:=a2.at_ q7 Kg;have kj:∀l∈(b,o+n * 3)::G1,∀j,j < l.2->F.cell? ⟨l.1,j,O⟩=w.cell? ⟨l.1,j,O⟩:=λl A j hj=>
  s.cell l.1 j (by
   rcases dD l.1 w.heap.size with x|x
   ·exact x
   ·have q:=lg l A;rw[fQ _ x]at q;omega) (bR hj (lg l A))
 have C:fp F e ((xs.drop (i * 3)).take 3) GE:=U2.dF _ (λl A j hj=>kj l (by simp[U l A]) j hj);have YG:eI h1 GE:=λl A=>by
  have q:=lg l (by simp[U l A]);have x:l.1 < w.heap.size:=by
   rcases dD l.1 w.heap.size with x|x
   ·exact x
   ·exact fp.lt _ U2 l A
  exact aG q (s.mono _ x)
 have ic:iA F b (o+i * 3) ((xs.drop (i * 3)).take 3):=by
  have hbk:i * 3+3<=n * 3:=by omega
  have q:=a3.sub (i * 3) 3;intro j d hu;have hj:j < 3:=by
   have:=(bq.1 hu).1;simp at this;omega
  rw[kj (b,o+n * 3) (by simp) _ (by simp only;omega)];exact q j d hu
 obtain⟨K,W,V,rfl⟩:∃K W V,e=[K,W,V]:=by
  match e,BJ with
  |[K,W,V],_=>exact⟨K,W,V,rfl⟩
 obtain⟨a,rfl⟩:∃a,K=.str a:=by
  cases K with
  |str a=>exact⟨a,rfl⟩
  |_=>simp[VK]at B
 refine gf wn (eo (Pl (r:=I) (et (v:=.int .i64 (i:Int)) s8) (et (v:=.int .i64 (n:Int)) s7) (adx dR)) ?_);refine j9 ?_;refine jR ?_;refine CB (et (v:=.bool I) rfl) ?_;refine zm ?_;refine jR ?_;refine xL ?_;refine jR ?_;refine fg ?_;refine gf wn (eo (gY (et (v:=.int .i64 (i:Int)) s8)) ?_);refine gf wn (eo (jI (et (v:=.int .i64 (i:Int)) rfl)) ?_);refine j9 ?_;refine jR ?_;refine fg ?_;obtain⟨L,hxe⟩:∃L,(xs.drop (i * 3)).take 3=L:=⟨_,rfl⟩
 rw[hxe]at C ic;have Dr:L.length=3:=fp.length _ C;refine gf wn (eo (gY (et (v:=.func (.func 230) #[] #[.pointer (Z ⟨g,0,O⟩)]) s1)) ?_);refine gf wn (eo (gY (et (v:=.slice (Z ⟨b,o,O⟩) n c) s0)) ?_);refine gf wn (eo (gY (et (v:=.int .i64 (i:Int)) rfl)) ?_);refine gf wn (eo (u_ (i:=i) Tryz.underlying29 Tryz.sizeOf99 (et (v:=.slice (Z ⟨b,o,O⟩) n c) rfl) (et (v:=.int .i64 (i:Int)) rfl) rfl mG) ?_);refine gf wn (eo (Mr (k:=3) Tryz.isAgg99 Tryz.sizeOf99 (et (v:=.pointer (Z ⟨b,o+i * 3,O⟩)) rfl) Dr ic) ?_);have hL1:R8 Tryz.prog F [g]:=hL.step s.size (λy H hn=>s.block y H hn) (λy H=>.inr H);have amG:g < F.heap.size:=bR hgl s.size;have qQ:=aek a t W V F h1 [.agg L.toArray,.pointer (Z ⟨g,0,O⟩)] [g] hL1 (by
   simp only[na,AR,iZ,Ik];have X:=C;simp only[fp]at X;obtain⟨v1,t1,E1,E1',rfl,rfl,p1,v2,t2,E2,E2',rfl,rfl,p2,v3,t3,E3,E3',rfl,rfl,p3,rfl,rfl⟩:=X;refine⟨_,_,[],[g],rfl,rfl,⟨[v1,v2,v3],⟨v1,[v2,v3],[],[],rfl,rfl,⟨rfl,E1,p1,λl p=>YG l (by simp[p])⟩,v2,[v3],[],[],rfl,rfl,⟨rfl,E2,p2,λl p=>YG l (by simp[p])⟩,v3,[],[],[],rfl,rfl,⟨rfl,E3,p3,λl p=>YG l (by simp[p])⟩,rfl,rfl⟩,(λ_=>rfl),λh=>by cases h⟩,_,_,[g],[],rfl,rfl,⟨g,T1,[.string t],[],rfl,BH,Dt,rfl,.string t,[],[],[],rfl,rfl,⟨rfl,[],?_,λl p=>by simp at p⟩,rfl,rfl⟩,rfl,rfl⟩;simp only[Rp];exact⟨trivial,trivial,hts⟩) (by simp) (λy H=>by simp at H;rw[H];exact amG) s.fQ
 refine gf wn (yW (adn (kF Tryz.func230 rfl rfl) (et (v:=.func (.func 230) #[] #[.pointer (Z ⟨g,0,O⟩)]) rfl) (a1 (et (v:=.agg L.toArray) rfl))) qQ ?_);intro en w2 hp;obtain⟨v,us,F1,F2,h2,rfl,YF,vv,NY,_,_,sE⟩:=hp;simp only[na,AR,iZ,Ik]at vv;obtain⟨d,vs1,H1,H2,rfl,_,⟨us1,⟨v1,vs2,H3,H4,R,_,⟨_,GR,U4,_⟩,U6,_⟩,_,m⟩,rfl,_⟩:=vv;have m:=m trivial;rw[U6]at R;rw[R]at m;simp only[cl,and_true]at m;subst m;simp only[Rp]at U4;have hv:v=.bool (Z' (a=t)):=by
  rcases YF with h|⟨h,_⟩
  ·simp only[cl,and_true]at h;rw[<- h];exact U4.1
  ·simp at h
 subst hv;simp only[il,na,AR,iZ,Ik]at NY;obtain⟨u2,vs3,H5,H6,Q,_,⟨g2,T2,vs4,F3,S,DS,S9,_,v2,vs5,H7,H8,P,_,⟨_,GS,NZ,_⟩,hv5,_⟩,_,_⟩:=NY;simp only[cl]at Q;obtain⟨rfl,rfl⟩:=Q;simp only[Value.pointer.injEq,ae,Addr.mk.injEq,and_true]at S;subst S;simp only[Rp]at NZ;subst hv5;rw[NZ.1]at P;subst P;have pR:CK h [g] w w2 h2:=s.trans sE;refine⟨_,rfl,?_⟩;refine j9 ?_;by_cases Qx:a=t
 ·have Y:=Ov B;rcases Y with ⟨_,rfl⟩|⟨q,_⟩
  ·refine CB (et (v:=.bool I) (by simp[Dj,Qx])) ?_;refine jR ?_;refine fg ?_;refine gf wn (eo (gY (et (v:=.int .i64 (i:Int)) rfl)) ?_);refine gf wn (eo (jI (et (v:=.int .i64 (i:Int)) rfl)) ?_);refine j9 ?_;refine JE ?_;exact⟨_,Jo (v:=.int .i64 (i:Int)) Tryz.results229 rfl,rfl,bH (by omega),h2,pR⟩
  ·exact absurd Qx q
 ·have Y:=Ov B;rcases Y with ⟨q,_⟩|⟨_,Y⟩
  ·exact absurd q Qx
  ·refine zk (et (v:=.bool J) (by simp[Dj,Qx])) ?_;refine zm ?_;refine fg ?_;refine gf wn (eo (Uj (et (v:=.int .i64 (i:Int)) s8) ec (by omega)) ?_);refine gf wn (eo (gY (et (v:=.int .i64 ((i:Int)+1)) rfl)) ?_);refine j9 ?_;exact⟨n - (i+1),by omega,i+1,h2,T2,s0,s1,s7,adl (by omega),by omega,by simpa using Y,pR,DS,S9,rfl⟩
theorem x9003(args P outs:M A)(p:XT 9003 args=Z (P,outs)):pz Tryz.prog (num 9003) args P outs:=by
 simp only[XT,aA,if_false,if_true]at p
 split at p
 ·rename_i S es t;simp only[ak,aI]at p;obtain⟨r,hr,rfl,rfl⟩:=p;intro w h vs F hL Q kl dR fQ;simp only[na,AR,iZ,Ik]at Q;obtain⟨a,fx,F1,F2,rfl,rfl,⟨us,⟨v1,X,G1,G2,rfl,rfl,⟨rfl,G,B,lg⟩,rfl,rfl⟩,_,x⟩,u2,W,H1,H2,rfl,rfl,⟨Y,⟨v2,V,G3,G4,rfl,rfl,⟨rfl,G5,T,_⟩,rfl,rfl⟩,_,y⟩,rfl,rfl⟩:=Q;have x:=x trivial;have y:=y trivial;simp only[cl,and_true]at x y;subst x y;have q:=B;simp only[Rp]at B T;obtain⟨l,n,c,rfl,_⟩:=B;obtain⟨rfl,rfl,D⟩:=T;refine enter (N:=8) Tryz.func201 rfl Tryz.ntmps201 rfl ?_;refine jR ?_;refine fg ?_;have oq:∀{C:TypeId} {m:String} {o:Array Edge} {gd:u (Nat×Bool)},(execOp (fr (λi=>#[Value.slice l n c,Value.string t].getD i undef) 8).eval ⟨Z 3,.box 9 (.tmp 1),C,m,o,gd⟩).run Tryz.prog w=.ok (.value (.pointer (Z ⟨w.heap.size,0,O⟩))) (w.alloc (.cells [Value.string t].toArray 9)):=by
   intro C m o gd;have h0:(fr (λi=>#[Value.slice l n c,Value.string t].getD i undef) 8).eval (.tmp 1)=.string t:=et rfl;have R:(execOp (fr (λi=>#[Value.slice l n c,Value.string t].getD i undef) 8).eval ⟨Z 3,.box 9 (.tmp 1),C,m,o,gd⟩).run Tryz.prog w=.ok (.value (.pointer (Z ⟨w.heap.size,0,O⟩))) (w.alloc (.cells ((fr (λi=>#[Value.slice l n c,Value.string t].getD i undef) 8).eval (.tmp 1)).cells 9)):=by
    simp[execOp,Instr.box,newVar,newRow,newObj,Sem.run]
   rw[h0]at R;exact R
  refine gf wn (Jk oq ?_);intro s hs1 k hB;refine gf wn (eo (jI ec) ?_);refine j9 ?_;refine jR ?_;refine fg ?_;refine gf wn (eo (gY (et (v:=.slice l n c) rfl)) ?_);refine gf wn (eo (afi (et (v:=.pointer (Z ⟨w.heap.size,0,O⟩)) rfl)) ?_);have f:CK h [] w s h:=EA k.os k.tape k.output k.size (λg b=>k.block g b) fQ;have U4:Rp s (.list 3 S es) (.slice l n c) G:=q.dF _ (λbe hb j K=>World.cell?_of_block (w:=w) (k.block _ (Rp.lt _ q be hb)));have L:R8 Tryz.prog s [w.heap.size]:=hL.step k.size (λg b _=>k.block g b) (λg b=>by simp at b;omega);have qQ:=ae1 t es S r hr s h l n c G U4 lg w.heap.size 9 hB (fQ _ (aD _)) D f.fQ (by omega) L;refine gf wn (yW (zo (kF Tryz.func229 rfl rfl) rfl (a2 (et (v:=.slice l n c) rfl) (et (v:=.func (.func 230) #[] #[.pointer (Z ⟨w.heap.size,0,O⟩)]) rfl))) qQ ?_)
  rintro e U ⟨rfl,H,h2,d⟩
  refine⟨_,rfl,?_⟩;refine gf wn (eo (jI (et (v:=.int .i64 r) rfl)) ?_);refine j9 ?_;refine JE ?_;refine⟨_,Jo (v:=.int .i64 r) Tryz.results201 rfl,?_⟩;have Yu:CK h [] w U h2:=⟨d.os.trans f.os,d.tape.trans f.tape,d.output.trans f.output,aG f.size d.size,
   λg b _=>(d.block g (by omega) (by simp;omega)).trans (f.block g b (by simp)),λg j b K=>(d.cell g j (by omega) K).trans (f.cell g j b K),
   λg b=>d.mono g (by omega),λg b _=>d.hold g (by omega) (by simp;omega),d.fQ,λg b=>d.fR g (f.fR g b)⟩
  exact Cu (by simp only[Rp];exact⟨trivial,trivial,H⟩) Yu rfl
 ·cases p
end
end Go.Proofs.YtnnjajingjfjiaaGreatDoor
