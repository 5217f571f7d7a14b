/- Part of the proof: a machine over plain data, its proof, the functions of the program run on symbols, what they answer. Condition: none. -/
import Derived.Test.YtgfcijiikgjbcaaGreatDoorZz04
import Derived.Test.YtgfcijiikgjbcaaGreatDoorZz19
import Derived.Test.YtgfcijiikgjbcaaGreatDoorZz23
import Derived.Test.YtgfcijiikgjbcaaGreatDoorZz24
set_option linter.unusedVariables false
set_option linter.unusedSimpArgs false
open Array renaming length_toList->eU
open Bool renaming or_assoc->iu,true->I,false->J
open ByteArray renaming size->nQ
open List renaming length_cons->aG,getElem?_eq_some_iff->bh,take_length->bo,getElem?_append_left->dd,take_succ_cons->dy,mem_of_getElem?->dS,ext_getElem?->eE,drop_of_length_le->fP,getElem?_set->jU,set_cons_succ->lh,size_toArray->oz,map_set->vV
open List.cons renaming injEq->bY
open Nat renaming le_refl->az,le_trans->aH,reduceEqDiff->aN,reduceLeDiff->bm,reduceBNe->bq,zero_add->bu,reduceAdd->bM,lt_of_lt_of_le->bR,lt_or_ge->dH,zero_le->nU,mul_one->pX,pow_succ->wP
open Option renaming map_eq_some_iff->aj,map_some->aQ,isSome_iff_exists->cy,some->Z,none->O
open Option.some renaming injEq->aa
open Prod.mk renaming injEq->aC
open Decidable renaming decide->Z'
namespace Go.Proofs.YtgfcijiikgjbcaaGreatDoor
set_option maxRecDepth 100000
section
open Go.RowKit
theorem Bw.refl{h:Nat->Nat}{F:M Nat}{w:World}(fW:∀g,w.heap.size<=g->h g=0):Bw h F w w h:=
 ⟨rfl,rfl,rfl,az _,λ_ _ _=>rfl,λ_ _ _ _=>rfl,λ_ _=>az _,λ_ _ _=>rfl,fW,λ_ h=>h⟩
theorem Bw.trans{h l k:Nat->Nat}{F:M Nat}{w f e:World}(a:Bw h F w f l)(b:Bw l F f e k):Bw h F w e k:=
 ⟨b.os.trans a.os,b.tape.trans a.tape,b.output.trans a.output,aH a.size b.size,λg c d=>(b.block g (bR c a.size) d).trans (a.block g c d),
  λg j c i=>(b.cell g j (bR c a.size) (bR i (a.mono g c))).trans (a.cell g j c i),λg c=>aH (a.mono g c) (b.mono g (bR c a.size)),
  λg c d=>(b.hold g (bR c a.size) d).trans (a.hold g c d),b.fW,λg h=>b.fX g (a.fX g h)⟩
theorem C_{h:Nat->Nat}{w b:World}(i:b.os=w.os)(e:b.tape=w.tape)(f:b.output=w.output)(c:w.heap.size<=b.heap.size)(d:∀g,g < w.heap.size->b.heap[g]?=w.heap[g]?)(fW:∀g,w.heap.size<=g->h g=0):Bw h [] w b h:=
 ⟨i,e,f,c,λg a _=>d g a,λg j a _=>World.cell?_of_block (w:=w) (d g a),λ_ _=>az _,λ_ _ _=>rfl,λg a=>fW g (aH c a),
  λg a=>⟨bR a.1 c,λj=>by rw[World.frozen?_of_block (w:=w) (d g a.1)];exact a.2 j⟩⟩
theorem Bf{k:M A}{x:D}{v:Value}{w a:World}{h:Nat->Nat}{F:M Nat}{f:M Value}{j:Nat->Nat}(l:Rp a x v [])(o:Bw h F w a j)(m:iA k f=[]) :
  ∃v1 i e c b,Ending.returned v=.returned v1/\YM i v1/\mT b a [.val J [.d x]] i e/\mT b a [] (iA k f) c/\(e++c).Nodup/\(∀g∈e++c,(w.heap.size<=g\/g∈F)/\g < a.heap.size)/\Bw h F w a b:=by
 refine⟨v,[v],[],[],j,rfl,.inl rfl,?_,by rw[m];exact⟨rfl,rfl⟩,by simp,λg n=>by simp at n,o⟩;simp only[mT,AR,jd,GD];exact⟨v,[],[],[],rfl,rfl,⟨[v],⟨v,[],[],[],rfl,rfl,⟨rfl,[],l,λq p=>by simp at p⟩,rfl,rfl⟩,(λh=>by cases h),λ_=>rfl⟩,rfl,rfl⟩
theorem We(n:Int)(h:-9223372036854775808<=n/\n<=9223372036854775807):(Lib.itoa n).length<=4096:=by
 have hd:∀(k a:Nat),a < 10 ^ (k+1)->(Lib.decDigits a).length<=k+1:=by
  intro k
  induction k with
  |zero=>intro a b;rw[Lib.decDigits,dif_pos (by simpa using b)];simp
  |succ k c=>
   intro a b;rw[Lib.decDigits];split
   ·simp
   ·have:=c (a / 10) (by rw[Nat.div_lt_iff_lt_mul (by decide)];simpa [wP] using b);simp
    omega
 unfold Lib.itoa;split
 ·have:=hd 19 n.natAbs (by simp;omega);simp;omega
 ·have:=hd 19 n.toNat (by simp;omega);omega
theorem ze:∀(l:M UInt8) (c:UInt8),-1<=Lib.indexByte l c/\Lib.indexByte l c<=l.length
 |[],c=>by simp[Lib.indexByte]
 |b::l,c=>by
  have a:=ze l c;simp only[Lib.indexByte,aG];split
  ·omega
  ·split<;>omega
theorem x9001(args j outs:M A)(b:XT 9001 args=Z (j,outs)):oY Tryz.prog (num 9001) args j outs:=by
 simp only[XT,if_true]at b
 split at b
 ·rename_i n;simp only[aa,aC]at b;obtain⟨rfl,rfl⟩:=b;intro w h x F r l B H fW;simp only[mT,AR,jd,GD]at l;obtain⟨a,D,N,L,rfl,rfl,⟨y,⟨v1,m,K,G2,rfl,rfl,⟨rfl,G,i,_⟩,rfl,rfl⟩,_,c⟩,rfl,rfl⟩:=l;have c:=c trivial;simp only[bY,and_true]at c;subst c;simp only[Rp]at i;obtain⟨rfl,rfl,o⟩:=i;have d:=AE o;obtain⟨s,t⟩:=cy.1 (show (Tryz.prog.globalNamed J4).isSome=I by kernel_rfl);obtain⟨_,_,f⟩:=r s t;refine Calls.mono (Tryz.strconv_Itoa n d.1 d.2 w f) λe v p=>?_;obtain⟨rfl,k,os,rfl⟩:=p;refine Bf ?_ (C_ rfl rfl rfl ?_ ?_ fW) rfl
  ·simp only[Rp];refine⟨trivial,trivial,?_⟩;have C:=We n d;simp only[nQ,oz,maxLen];omega
  ·simp[Sort.grow]
  ·intro g q;simp only[Sort.grow,World.heap_drewN];rw[Array.getElem?_append_left q]
 ·cases b
theorem x9002(args i outs:M A)(b:XT 9002 args=Z (i,outs)):oY Tryz.prog (num 9002) args i outs:=by
 simp only[XT,aN,if_false,if_true]at b
 split at b
 ·rename_i s c;simp only[aa,aC]at b;obtain⟨rfl,rfl⟩:=b;intro w h v F H j B L fW;simp only[mT,AR,jd,GD]at j;obtain⟨a,K,U,T,rfl,rfl,⟨x,⟨v1,n,S,G2,rfl,rfl,⟨rfl,G,g,_⟩,rfl,rfl⟩,_,d⟩,y,m,N,H2,rfl,rfl,⟨o,⟨v2,l,R,Q,rfl,rfl,⟨rfl,P,k,_⟩,rfl,rfl⟩,_,f⟩,rfl,rfl⟩:=j;have d:=d trivial;have f:=f trivial;simp only[bY,and_true]at d f;subst d f;simp only[Rp]at g k;obtain⟨rfl,rfl,q⟩:=g;obtain⟨rfl,rfl,D⟩:=k;refine Calls.mono (Tryz.strings_IndexByte s c w) λe t r=>?_;obtain⟨rfl,rfl⟩:=r;refine Bf ?_ (C_ rfl rfl rfl (az _) (λ_ _=>rfl) fW) rfl;simp only[Rp];refine⟨trivial,trivial,?_⟩;have C:=ze s.data.toList c.toNat.toUInt8;have p:s.data.toList.length<=maxLen:=by rw[eU];exact q
  simp only[maxLen]at p;exact cD (by omega)
 ·cases b
theorem DS:∀(c es:M Bool) (i:Nat) (b e:Bool),c[i]?=Z b->es[i]?=Z e->(dM c (es.take i))[i]?=Z b/\dM c (es.take (i+1))=(dM c (es.take i)).set i (b ||e)/\nC c (es.take (i+1))=(nC c (es.take i) ||(e && !b))
 |[],_,_,_,_,f,_=>by simp at f
 |a::c,[],_,_,_,_,d=>by simp at d
 |a::c,x::es,0,b,e,f,d=>by
  simp only[List.getElem?_cons_zero,aa]at f d;subst f d;cases c<;>simp[dM,nC]
 |a::c,x::es,i+1,b,e,f,d=>by
  simp only[List.getElem?_cons_succ]at f d;obtain⟨j,h,g⟩:=DS c es i b e f d;simp only[dy,dM,nC,List.getElem?_cons_succ,lh,j,h,g,iu,and_self]
set_option maxHeartbeats 1600000 in
theorem x9004:Nj Tryz.prog (num 9004):=by
 intro w g T a es c b o m n rest hB S F K Y;simp only[maxLen]at Y;have h0:kJ (gF w g (.cells ((dM a (es.take 0)).map Value.bool++rest).toArray T (0,0))) g T ((dM a (es.take 0)).map Value.bool++rest):=hB.iB T _;have C:dM a (es.take 0)=a:=by cases a<;>simp[dM]
 have A:gF w g (.cells ((dM a (es.take 0)).map Value.bool++rest).toArray T (0,0))=w:=by rw[C];exact HV hB
 refine enter (N:=28) Tryz.func212 rfl Tryz.ntmps212 rfl ?_;refine jS ?_;refine fh ?_;refine gq wn (eu (jJ ec) ?_);refine j_ ?_;refine jS ?_;refine fh ?_;refine gq wn (eu (jJ ec) ?_);refine j_ ?_;refine jS ?_;refine jS ?_;refine fh ?_;refine gq wn (eu (il (et (v:=.slice (Z ⟨b,o,O⟩) es.length n) rfl)) ?_);refine gq wn (eu (Ia Tryz.underlying157 (et (v:=.slice (Z ⟨b,o,O⟩) es.length n) rfl)) ?_);refine gq wn (eu (il ec) ?_);refine j_ ?_;refine wM ?_;refine Kb (λG f R=>∃(i:Nat),f 0=.slice (Z ⟨g,0,O⟩) a.length c/\f 1=.slice (Z ⟨b,o,O⟩) es.length n/\f 5=.bool (nC a (es.take i))/\f 8=.int .i64 (es.length:Int)/\f 9=.int .i64 (i:Int)/\i<=es.length/\R=gF w g (.cells ((dM a (es.take i)).map Value.bool++rest).toArray T (0,0))/\G=es.length - i) (es.length - 0) ?_ ?_
 ·exact⟨0,rfl,rfl,by show Value.bool J=_;cases a<;>rfl,rfl,rfl,nU _,A.symm,rfl⟩
 rintro G P w1 ⟨i,j,q,p,h,d,hi,rfl,rfl⟩
 refine jS ?_;refine fh ?_;by_cases Q:(i:Int) < (es.length:Int)
 rotate_left
 ·refine gq wn (eu (MW (r:=J) (et (v:=.int .i64 (i:Int)) d) (et (v:=.int .i64 (es.length:Int)) h) (abt Q)) ?_);refine j_ ?_;refine jS ?_;refine ye (et (v:=.bool J) rfl) ?_;refine Ka ?_;refine Eq.mpr (if_pos rfl) ?_;have D:i=es.length:=by omega
  subst D;rw[bo]at p ⊢;refine jS ?_;refine fh ?_;refine gq wn (eu (il (et (v:=.bool (nC a es)) p)) ?_);refine gq wn (eu (jJ (et (v:=.bool (nC a es)) rfl)) ?_);refine j_ ?_;refine H_ ?_;exact⟨_,HO (v:=.bool (nC a es)) Tryz.results212 rfl,rfl,rfl⟩
 have H:i < es.length:=by omega
 obtain⟨e,L⟩:∃e,es[i]?=Z e:=⟨es[i],by simp[H]⟩
 obtain⟨x,W⟩:∃x,a[i]?=Z x:=⟨a[i]'(by omega),by simp[show i < a.length by omega]⟩
 obtain⟨y,t,s⟩:=DS a es i x e W L;have RX:=j9 a (es.take i);generalize X:dM a (es.take i)=cur at *;have l:=hB.iB T (cur.map Value.bool++rest);have V:(gF w g (.cells (cur.map Value.bool++rest).toArray T (0,0))).cell? ⟨b,o+i * 1,O⟩=Z (.bool e):=by
  rw[World.cell?_of_block (w:=w) ((GB.gF w g (cur.map Value.bool++rest).toArray T).block b F),pX];exact S i _ (by simp[L])
 have U:(gF w g (.cells (cur.map Value.bool++rest).toArray T (0,0))).cell? ⟨g,0+i * 1,O⟩=Z (.bool x):=by
  rw[l.cell,pX,bu,dd (by simp;omega)];simp[y]
 refine gq wn (eu (MW (r:=I) (et (v:=.int .i64 (i:Int)) d) (et (v:=.int .i64 (es.length:Int)) h) (abu Q)) ?_);refine j_ ?_;refine jS ?_;refine Bm (et (v:=.bool I) rfl) ?_;refine yf ?_;refine jS ?_;refine wM ?_;refine jS ?_;refine fh ?_;refine gq wn (eu (il (et (v:=.int .i64 (i:Int)) d)) ?_);refine gq wn (eu (jJ (et (v:=.int .i64 (i:Int)) rfl)) ?_);refine j_ ?_;refine jS ?_;refine fh ?_;refine gq wn (eu (il (et (v:=.slice (Z ⟨b,o,O⟩) es.length n) q)) ?_);refine gq wn (eu (il (et (v:=.int .i64 (i:Int)) rfl)) ?_);refine gq wn (eu (tU (i:=i) Tryz.underlying157 Tryz.sizeOf4 (et (v:=.slice (Z ⟨b,o,O⟩) es.length n) rfl) (et (v:=.int .i64 (i:Int)) rfl) rfl H) ?_);refine gq wn (eu (Kf (v:=.bool e) Tryz.isAgg4 (et (v:=.pointer (Z ⟨b,o+i * 1,O⟩)) rfl) V) ?_);refine gq wn (eu (il (et (v:=.bool e) rfl)) ?_);cases e with
 |false=>
  refine A4 (wx rfl) ?_;refine A4 (wx rfl) ?_;refine A4 (wx rfl) ?_;refine A4 (wx rfl) ?_;refine A4 (wx rfl) ?_;refine gq wn (eu (MX (v:=.bool J) (et (v:=.bool J) rfl) ec) ?_);refine j_ ?_;refine ye (et (v:=.bool J) rfl) ?_;refine yf ?_;refine fh ?_;refine gq wn (eu (Rh (et (v:=.int .i64 (i:Int)) d) ec (by omega)) ?_);refine gq wn (eu (il (et (v:=.int .i64 ((i:Int)+1)) rfl)) ?_);refine j_ ?_;refine⟨es.length - (i+1),by omega,i+1,j,q,?_,h,abj (by omega),by omega,?_,rfl⟩
  ·exact (show P 5=_ from p).trans (by rw[s];simp)
  ·rw[t];have:cur.set i (x ||false)=cur:=by
    apply eE
    intro k;rw[jU];split
    ·rename_i B;subst B;rw[y];simp;omega
    ·rfl
   rw[this]
 |true=>
  refine gq (wy rfl) (eu (il (et (v:=.slice (Z ⟨g,0,O⟩) a.length c) j)) ?_);refine gq (wy rfl) (eu (il (et (v:=.int .i64 (i:Int)) rfl)) ?_);refine gq (wy rfl) (eu (tU (i:=i) Tryz.underlying157 Tryz.sizeOf4 (et (v:=.slice (Z ⟨g,0,O⟩) a.length c) rfl) (et (v:=.int .i64 (i:Int)) rfl) rfl (by omega)) ?_);refine gq (wy rfl) (eu (Kf (v:=.bool x) Tryz.isAgg4 (et (v:=.pointer (Z ⟨g,0+i * 1,O⟩)) rfl) U) ?_);refine gq (wy rfl) (eu (ab0 (b:=x) (et (v:=.bool x) rfl)) ?_);refine gq wn (eu (MY (v:=.bool !x) (et (v:=.bool I) rfl) (et (v:=.bool !x) rfl)) ?_);refine j_ ?_;cases x with
  |true=>
   refine ye (et (v:=.bool J) rfl) ?_;refine yf ?_;refine fh ?_;refine gq wn (eu (Rh (et (v:=.int .i64 (i:Int)) d) ec (by omega)) ?_);refine gq wn (eu (il (et (v:=.int .i64 ((i:Int)+1)) rfl)) ?_);refine j_ ?_;refine⟨es.length - (i+1),by omega,i+1,j,q,?_,h,abj (by omega),by omega,?_,rfl⟩
   ·exact (show P 5=_ from p).trans (by rw[s];simp)
   ·rw[t];have:cur.set i (I ||true)=cur:=by
     apply eE
     intro k;rw[jU];split
     ·rename_i B;subst B;rw[y];simp;omega
     ·rfl
    rw[this]
  |false=>
   refine Bm (et (v:=.bool I) rfl) ?_;refine jS ?_;refine fh ?_;refine gq wn (eu (il (et (v:=.slice (Z ⟨g,0,O⟩) a.length c) j)) ?_);refine gq wn (eu (il (et (v:=.int .i64 (i:Int)) rfl)) ?_);refine gq wn (eu (tU (i:=i) Tryz.underlying157 Tryz.sizeOf4 (et (v:=.slice (Z ⟨g,0,O⟩) a.length c) rfl) (et (v:=.int .i64 (i:Int)) rfl) rfl (by omega)) ?_);refine gq wn (JH (abm (v:=.bool I) Tryz.sizeOf4 (et (v:=.pointer (Z ⟨g,0+i * 1,O⟩)) rfl) ec rfl l (by simp;omega)) ?_);refine j_ ?_;refine fh ?_;refine gq wn (eu (jJ ec) ?_);refine j_ ?_;refine fh ?_;refine gq wn (eu (Rh (et (v:=.int .i64 (i:Int)) d) ec (by omega)) ?_);refine gq wn (eu (il (et (v:=.int .i64 ((i:Int)+1)) rfl)) ?_);refine j_ ?_;refine⟨es.length - (i+1),by omega,i+1,j,q,?_,h,abj (by omega),by omega,?_,rfl⟩
   ·rw[s];show Value.bool I=_;simp
   ·rw[t,sN]
    congr 2
    rw[bu,pX,List.set_append_left _ _ (by simp;omega)];simp[vV]
theorem adi:Rr Tryz.prog num:=⟨λ_=>x9004,λins _=>by cases ins;exact x9005;exact x9006⟩
def T0(f:Nat):u KF:=if f=333 then Z agD else O
theorem ab9(a t:z)(x y:D):oY Tryz.prog (num 333) [.val I [.d (.str a),.d x,.d y],.box [.d (.str t)]] [.val J [.d (.bool (Z' (a=t)))]] [.box [.d (.str t)]]:=by
 have i:ej T0 333 [.val I [.d (.str a),.d x,.d y],.box [.d (.str t)]]=Z ([.val J [.d (.bool (Z' (a=t)))]],[.box [.d (.str t)]]):=by
  rw[vr (f:=333) rfl rfl];simp -implicitDefEqProofs only [VA,go_sem,bM,aN,bm,bq,aQ]
 obtain⟨n,c⟩:=(wz T0 333 _ _).1 i;have g:∀f b,T0 f=Z b->Yq Tryz.prog num f b:=λf b h=>by
  unfold T0 at h
  split at h
  ·rename_i e;cases h;rw[e];exact .of ahj rfl
  ·cases h
 exact v8 (by kernel_rfl) adi g n _ _ _ _ c
theorem Md{t a:z}{c:M D}{es:M (M D)}{i r:Int}(h:S5 t ((.str a::c)::es) i=Z r):(a=t/\r=i)\/(a≠t/\S5 t es (i+1)=Z r):=by
 simp only[S5]at h
 split at h
 ·rename_i b;cases h;exact .inl ⟨b,rfl⟩
 ·rename_i b;exact .inr ⟨b,h⟩
theorem abl{P:Program}{b:Operand->Value}{d:u Tmp}{h:TypeId}{c:String}{e:Array Edge}{gd:u (Nat×Bool)}{w:World}{F:FuncId}{x:Operand}{g:Array Operand}{i:Array TypeId}{f a:Array Value}(l:∀(args:Array Value) (w:World),(callFunc F args).run P w=.ok (.enter F args) w)(k:b x=.func (.func F) #[] a)(j:g.map b=f) :
  (execOp b ⟨d,.call {callee:=.value x,args:=g,argTypes:=i },h,c,e,gd⟩).run P w=.ok (.enter F (f++a)) w:=by
 subst j;simp[execOp,resolve,Deferred.ofValue,k,invoke,l]
theorem ac5{P:Program}{d:Operand->Value}{b:u Tmp}{e:TypeId}{a:String}{c:Array Edge}{gd:u (Nat×Bool)}{w:World}{F:FuncId}{x:Operand}{v:Value}(f:d x=v) :
  (execOp d ⟨b,.makeFunc (.func F) #[] #[x],e,a,c,gd⟩).run P w=.ok (.value (.func (.func F) #[] #[v])) w:=by
 subst f;simp[execOp,Instr.makeFunc]
set_option maxHeartbeats 1600000 in
theorem acO(t:z)(es:M (M D))(fl:Bool)(r:Int)(hr:S5 t es 0=Z r)(w:World)(h:Nat->Nat)(A0:u Addr)(n c:Nat)(G:Fp)(yr:Rp w (.list 3 fl es) (.slice A0 n c) G)(kZ:eI h G)(g:Nat)(T:TypeId)(p:kJ w g T [.string t])(BH:h g=0)(hts:t.size<=maxLen)
  (fW:∀y,w.heap.size<=y->h y=0) (hgl:g < w.heap.size) (hL:Ua Tryz.prog w [g]) :
  Calls Tryz.prog 169 #[.slice A0 n c,.func (.func 170) #[] #[.pointer (Z ⟨g,0,O⟩)]] w λe w'=>e=.returned (.int .i64 r)/\IntKind.i64.wrap r=r/\∃h',Bw h [g] w w' h':=by
 simp only[Rp]at yr;obtain⟨A1,n1,c1,wk,q2,q3,q4,q5,q6,q7,q8⟩:=yr;simp only[Value.slice.injEq]at wk;obtain⟨rfl,rfl,rfl⟩:=wk;have NZ:n<=maxLen:=aH q3 q4;simp only[maxLen]at NZ;refine enter (N:=19) Tryz.func169 rfl Tryz.ntmps169 rfl ?_;refine jS ?_;refine fh ?_;refine gq wn (eu (jJ ec) ?_);refine j_ ?_;refine jS ?_;refine jS ?_;refine fh ?_;refine gq wn (eu (il (et (v:=.slice A0 n c) rfl)) ?_);refine gq wn (eu (Ia Tryz.underlying26 (et (v:=.slice A0 n c) rfl)) ?_);refine gq wn (eu (il ec) ?_);refine j_ ?_;refine wM ?_;refine Kb (λμ f w'=>∃(i:Nat) (h':Nat->Nat) (T':TypeId),f 0=.slice A0 n c/\f 1=.func (.func 170) #[] #[.pointer (Z ⟨g,0,O⟩)]/\f 7=.int .i64 (n:Int)/\f 8=.int .i64 (i:Int)/\i<=n/\S5 t (es.drop i) i=Z r/\Bw h [g] w w' h'/\kJ w' g T' [.string t]/\h' g=0/\μ=n - i) (n - 0) ?_ ?_
 ·exact⟨0,h,T,rfl,rfl,rfl,rfl,nU _,by simpa using hr,Bw.refl fW,p,BH,rfl⟩
 rintro μ f1 F ⟨i,h1,T1,s0,s1,s7,s8,hi,B,s,Ay,hz1,rfl⟩
 refine jS ?_;refine fh ?_;by_cases ed:(i:Int) < (n:Int)
 rotate_left
 ·refine gq wn (eu (MW (r:=J) (et (v:=.int .i64 (i:Int)) s8) (et (v:=.int .i64 (n:Int)) s7) (abt ed)) ?_);refine j_ ?_;refine jS ?_;refine ye (et (v:=.bool J) rfl) ?_;refine Ka ?_;refine Eq.mpr (if_pos rfl) ?_;refine jS ?_;refine fh ?_;refine gq wn (eu (jJ ec) ?_);refine j_ ?_;refine H_ ?_;have hd:es.drop i=[]:=fP (by omega);rw[hd]at B;simp only[S5,aa]at B;subst B;exact⟨_,HO (v:=.int .i64 (-1)) Tryz.results169 rfl,rfl,rfl,h1,s⟩
 have mD:i < n:=by omega
 obtain⟨e,IN⟩:∃e,es[i]?=Z e:=⟨es[i]'(by omega),by simp[show i < es.length by omega]⟩
 have AA:=q7 e (dS IN);have hde:es.drop i=e::es.drop (i+1):=eM es i e (by rw[eh];exact IN);rw[hde]at B;rcases q8 with ⟨q8,_⟩|⟨_,b,o,xs,G1,rfl,rfl,a2,a3⟩
 ·omega
 obtain⟨GE,R4,U⟩:=a2.at_ q7 IN;have mb:∀l∈(b,o+n * 3)::G1,∀j,j < l.2->F.cell? ⟨l.1,j,O⟩=w.cell? ⟨l.1,j,O⟩:=λl A j hj=>
  s.cell l.1 j (by
   rcases dH l.1 w.heap.size with x|x
   ·exact x
   ·have q:=kZ l A;rw[fW _ x]at q;omega) (bR hj (kZ l A))
 have C:fE F e ((xs.drop (i * 3)).take 3) GE:=R4.dL _ (λl A j hj=>mb l (by simp[U l A]) j hj);have V4:eI h1 GE:=λl A=>by
  have q:=kZ l (by simp[U l A]);have x:l.1 < w.heap.size:=by
   rcases dH l.1 w.heap.size with x|x
   ·exact x
   ·exact fE.lt _ R4 l A
  exact aH q (s.mono _ x)
 have iy:iH F b (o+i * 3) ((xs.drop (i * 3)).take 3):=by
  have hbk:i * 3+3<=n * 3:=by omega
  have q:=a3.sub (i * 3) 3;intro j d hu;have hj:j < 3:=by
   have:=(bh.1 hu).1;simp at this;omega
  rw[mb (b,o+n * 3) (by simp) _ (by simp only;omega)];exact q j d hu
 obtain⟨K,W,V,rfl⟩:∃K W V,e=[K,W,V]:=by
  match e,AA with
  |[K,W,V],_=>exact⟨K,W,V,rfl⟩
 obtain⟨a,rfl⟩:∃a,K=.str a:=by
  cases K with
  |str a=>exact⟨a,rfl⟩
  |_=>simp[S5]at B
 refine gq wn (eu (MW (r:=I) (et (v:=.int .i64 (i:Int)) s8) (et (v:=.int .i64 (n:Int)) s7) (abu ed)) ?_);refine j_ ?_;refine jS ?_;refine Bm (et (v:=.bool I) rfl) ?_;refine yf ?_;refine jS ?_;refine wM ?_;refine jS ?_;refine fh ?_;refine gq wn (eu (il (et (v:=.int .i64 (i:Int)) s8)) ?_);refine gq wn (eu (jJ (et (v:=.int .i64 (i:Int)) rfl)) ?_);refine j_ ?_;refine jS ?_;refine fh ?_;obtain⟨L,hxe⟩:∃L,(xs.drop (i * 3)).take 3=L:=⟨_,rfl⟩
 rw[hxe]at C iy;have Ca:L.length=3:=fE.length _ C;refine gq wn (eu (il (et (v:=.func (.func 170) #[] #[.pointer (Z ⟨g,0,O⟩)]) s1)) ?_);refine gq wn (eu (il (et (v:=.slice (Z ⟨b,o,O⟩) n c) s0)) ?_);refine gq wn (eu (il (et (v:=.int .i64 (i:Int)) rfl)) ?_);refine gq wn (eu (tU (i:=i) Tryz.underlying26 Tryz.sizeOf67 (et (v:=.slice (Z ⟨b,o,O⟩) n c) rfl) (et (v:=.int .i64 (i:Int)) rfl) rfl mD) ?_);refine gq wn (eu (Kg (k:=3) Tryz.isAgg67 Tryz.sizeOf67 (et (v:=.pointer (Z ⟨b,o+i * 3,O⟩)) rfl) Ca iy) ?_);have hL1:Ua Tryz.prog F [g]:=hL.step s.size (λy H hn=>s.block y H hn) (λy H=>.inr H);have ajL:g < F.heap.size:=bR hgl s.size;have qi:=ab9 a t W V F h1 [.agg L.toArray,.pointer (Z ⟨g,0,O⟩)] [g] hL1 (by
   simp only[mT,AR,jd,GD];have X:=C;simp only[fE]at X;obtain⟨v1,t1,E1,E1',rfl,rfl,p1,v2,t2,E2,E2',rfl,rfl,p2,v3,t3,E3,E3',rfl,rfl,p3,rfl,rfl⟩:=X;refine⟨_,_,[],[g],rfl,rfl,⟨[v1,v2,v3],⟨v1,[v2,v3],[],[],rfl,rfl,⟨rfl,E1,p1,λl p=>V4 l (by simp[p])⟩,v2,[v3],[],[],rfl,rfl,⟨rfl,E2,p2,λl p=>V4 l (by simp[p])⟩,v3,[],[],[],rfl,rfl,⟨rfl,E3,p3,λl p=>V4 l (by simp[p])⟩,rfl,rfl⟩,(λ_=>rfl),λh=>by cases h⟩,_,_,[g],[],rfl,rfl,⟨g,T1,[.string t],[],rfl,Ay,hz1,rfl,.string t,[],[],[],rfl,rfl,⟨rfl,[],?_,λl p=>by simp at p⟩,rfl,rfl⟩,rfl,rfl⟩;simp only[Rp];exact⟨trivial,trivial,hts⟩) (by simp) (λy H=>by simp at H;rw[H];exact ajL) s.fW
 refine gq wn (xV (abl (kD Tryz.func170 rfl rfl) (et (v:=.func (.func 170) #[] #[.pointer (Z ⟨g,0,O⟩)]) rfl) (a1 (et (v:=.agg L.toArray) rfl))) qi ?_);intro en w2 hp;obtain⟨v,us,F1,F2,h2,rfl,V3,uo,LG,_,_,rG⟩:=hp;simp only[mT,AR,jd,GD]at uo;obtain⟨d,vs1,H1,H2,rfl,_,⟨us1,⟨v1,vs2,H3,H4,R,_,⟨_,GR,R6,_⟩,R9,_⟩,_,m⟩,rfl,_⟩:=uo;have m:=m trivial;rw[R9]at R;rw[R]at m;simp only[bY,and_true]at m;subst m;simp only[Rp]at R6;have hv:v=.bool (Z' (a=t)):=by
  rcases V3 with h|⟨h,_⟩
  ·simp only[bY,and_true]at h;rw[<- h];exact R6.1
  ·simp at h
 subst hv;simp only[iA,mT,AR,jd,GD]at LG;obtain⟨u2,vs3,H5,H6,Q,_,⟨g2,T2,vs4,F3,S,CA,Qd,_,v2,vs5,H7,H8,P,_,⟨_,GS,LH,_⟩,hv5,_⟩,_,_⟩:=LG;simp only[bY]at Q;obtain⟨rfl,rfl⟩:=Q;simp only[Value.pointer.injEq,aa,Addr.mk.injEq,and_true]at S;subst S;simp only[Rp]at LH;subst hv5;rw[LH.1]at P;subst P;have pn:Bw h [g] w w2 h2:=s.trans rG;refine⟨_,rfl,?_⟩;refine j_ ?_;by_cases NY:a=t
 ·have Y:=Md B;rcases Y with ⟨_,rfl⟩|⟨q,_⟩
  ·refine Bm (et (v:=.bool I) (by simp[B3,NY])) ?_;refine jS ?_;refine fh ?_;refine gq wn (eu (il (et (v:=.int .i64 (i:Int)) rfl)) ?_);refine gq wn (eu (jJ (et (v:=.int .i64 (i:Int)) rfl)) ?_);refine j_ ?_;refine H_ ?_;exact⟨_,HO (v:=.int .i64 (i:Int)) Tryz.results169 rfl,rfl,cD (by omega),h2,pn⟩
  ·exact absurd NY q
 ·have Y:=Md B;rcases Y with ⟨q,_⟩|⟨_,Y⟩
  ·exact absurd q NY
  ·refine ye (et (v:=.bool J) (by simp[B3,NY])) ?_;refine yf ?_;refine fh ?_;refine gq wn (eu (Rh (et (v:=.int .i64 (i:Int)) s8) ec (by omega)) ?_);refine gq wn (eu (il (et (v:=.int .i64 ((i:Int)+1)) rfl)) ?_);refine j_ ?_;exact⟨n - (i+1),by omega,i+1,h2,T2,s0,s1,s7,abj (by omega),by omega,by simpa using Y,pn,CA,Qd,rfl⟩
theorem x9003(args P outs:M A)(p:XT 9003 args=Z (P,outs)):oY Tryz.prog (num 9003) args P outs:=by
 simp only[XT,aN,if_false,if_true]at p
 split at p
 ·rename_i S es t;simp only[aj,aC]at p;obtain⟨r,hr,rfl,rfl⟩:=p;intro w h vs F hL Q kl ed fW;simp only[mT,AR,jd,GD]at Q;obtain⟨a,fC,F1,F2,rfl,rfl,⟨us,⟨v1,X,G1,G2,rfl,rfl,⟨rfl,G,B,kZ⟩,rfl,rfl⟩,_,x⟩,u2,W,H1,H2,rfl,rfl,⟨Y,⟨v2,V,G3,G4,rfl,rfl,⟨rfl,G5,T,_⟩,rfl,rfl⟩,_,y⟩,rfl,rfl⟩:=Q;have x:=x trivial;have y:=y trivial;simp only[bY,and_true]at x y;subst x y;have q:=B;simp only[Rp]at B T;obtain⟨l,n,c,rfl,_⟩:=B;obtain⟨rfl,rfl,D⟩:=T;refine enter (N:=8) Tryz.func143 rfl Tryz.ntmps143 rfl ?_;refine jS ?_;refine fh ?_;have nS:∀{C:TypeId} {m:String} {o:Array Edge} {gd:u (Nat×Bool)},(execOp (fr (λi=>#[Value.slice l n c,Value.string t].getD i undef) 8).eval ⟨Z 3,.box 9 (.tmp 1),C,m,o,gd⟩).run Tryz.prog w=.ok (.value (.pointer (Z ⟨w.heap.size,0,O⟩))) (w.alloc (.cells [Value.string t].toArray 9)):=by
   intro C m o gd;have h0:(fr (λi=>#[Value.slice l n c,Value.string t].getD i undef) 8).eval (.tmp 1)=.string t:=et rfl;have R:(execOp (fr (λi=>#[Value.slice l n c,Value.string t].getD i undef) 8).eval ⟨Z 3,.box 9 (.tmp 1),C,m,o,gd⟩).run Tryz.prog w=.ok (.value (.pointer (Z ⟨w.heap.size,0,O⟩))) (w.alloc (.cells ((fr (λi=>#[Value.slice l n c,Value.string t].getD i undef) 8).eval (.tmp 1)).cells 9)):=by
    simp[execOp,Instr.box,newVar,newRow,newObj,Sem.run]
   rw[h0]at R;exact R
  refine gq wn (HJ nS ?_);intro s ZH k hB;refine gq wn (eu (jJ ec) ?_);refine j_ ?_;refine jS ?_;refine fh ?_;refine gq wn (eu (il (et (v:=.slice l n c) rfl)) ?_);refine gq wn (eu (ac5 (et (v:=.pointer (Z ⟨w.heap.size,0,O⟩)) rfl)) ?_);have f:Bw h [] w s h:=C_ k.os k.tape k.output k.size (λg b=>k.block g b) fW;have R6:Rp s (.list 3 S es) (.slice l n c) G:=q.dL _ (λbe hb j K=>World.cell?_of_block (w:=w) (k.block _ (Rp.lt _ q be hb)));have L:Ua Tryz.prog s [w.heap.size]:=hL.step k.size (λg b _=>k.block g b) (λg b=>by simp at b;omega);have qi:=acO t es S r hr s h l n c G R6 kZ w.heap.size 9 hB (fW _ (az _)) D f.fW (by omega) L;refine gq wn (xV (yh (kD Tryz.func169 rfl rfl) rfl (a2 (et (v:=.slice l n c) rfl) (et (v:=.func (.func 170) #[] #[.pointer (Z ⟨w.heap.size,0,O⟩)]) rfl))) qi ?_)
  rintro e U ⟨rfl,H,h2,d⟩
  refine⟨_,rfl,?_⟩;refine gq wn (eu (jJ (et (v:=.int .i64 r) rfl)) ?_);refine j_ ?_;refine H_ ?_;refine⟨_,HO (v:=.int .i64 r) Tryz.results143 rfl,?_⟩;have VS:Bw h [] w U h2:=⟨d.os.trans f.os,d.tape.trans f.tape,d.output.trans f.output,aH f.size d.size,
   λg b _=>(d.block g (by omega) (by simp;omega)).trans (f.block g b (by simp)),λg j b K=>(d.cell g j (by omega) K).trans (f.cell g j b K),
   λg b=>d.mono g (by omega),λg b _=>d.hold g (by omega) (by simp;omega),d.fW,λg b=>d.fX g (f.fX g b)⟩
  exact Bf (by simp only[Rp];exact⟨trivial,trivial,H⟩) VS rfl
 ·cases p
end
end Go.Proofs.YtgfcijiikgjbcaaGreatDoor
