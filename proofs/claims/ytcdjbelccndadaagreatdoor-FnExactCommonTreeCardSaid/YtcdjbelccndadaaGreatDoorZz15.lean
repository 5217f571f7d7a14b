/- Part of the proof: a machine over plain data, its proof, the functions of the program run on symbols, what they answer. Condition: none. -/
import Derived.Test.YtcdjbelccndadaaGreatDoorZz04
import Derived.Test.YtcdjbelccndadaaGreatDoorZz10
import Derived.Test.YtcdjbelccndadaaGreatDoorZz14
set_option linter.unusedVariables false
set_option linter.unusedSimpArgs false
open Array renaming length_toList->eI
open Bool renaming or_assoc->fR
open ByteArray renaming size->n8
open List renaming length_cons->aE,getElem?_eq_some_iff->aI,take_length->aW,getElem?_append_left->cl,take_succ_cons->cD,mem_of_getElem?->cK,ext_getElem?->ed,drop_of_length_le->ez,getElem?_set->iu,size_toArray->pX
open List.cons renaming injEq->bq
open Nat renaming le_refl->aj,reduceEqDiff->ax,le_trans->az,reduceLeDiff->aZ,reduceBNe->ba,lt_of_lt_of_le->bn,zero_add->bo,reduceAdd->bI,lt_or_ge->cY,mul_one->nF,zero_le->qL
open Option renaming map_eq_some_iff->ad,map_some->aB,isSome_iff_exists->bF
open Option.some renaming injEq->aa
open Prod.mk renaming injEq->ao
namespace Go.Proofs.YtcdjbelccndadaaGreatDoor
set_option maxRecDepth 100000
section
open Go.RowKit
theorem xL.refl{h:Nat->Nat}{F:List Nat}{w:World}(eM:∀g,w.heap.size<=g->h g=0):xL h F w w h:=
 ⟨rfl,rfl,rfl,aj _,λ_ _ _=>rfl,λ_ _ _ _=>rfl,λ_ _=>aj _,λ_ _ _=>rfl,eM,λ_ h=>h⟩
theorem xL.trans {h h1 h2 : Nat -> Nat} {F : List Nat} {w w1 w2 : World} (a : xL h F w w1 h1) (b : xL h1 F w1 w2 h2) : xL h F w w2 h2 :=
  ⟨b.os.trans a.os, b.tape.trans a.tape, b.output.trans a.output, az a.size b.size, λg hg hn => (b.block g (bn hg a.size) hn).trans (a.block g hg hn),
   λg j hg hj => (b.cell g j (bn hg a.size) (bn hj (a.mono g hg))).trans (a.cell g j hg hj), λg hg => az (a.mono g hg) (b.mono g (bn hg a.size)),
   λg hg hn => (b.hold g (bn hg a.size) hn).trans (a.hold g hg hn), b.eM, λg h => b.eV g (a.eV g h)⟩
theorem zO {h : Nat -> Nat} {w w' : World} (ho : w'.os = w.os) (ht : w'.tape = w.tape) (hp : w'.output = w.output) (hs : w.heap.size <= w'.heap.size) (hb : ∀ g, g < w.heap.size -> w'.heap[g]? = w.heap[g]?) (eM : ∀ g, w.heap.size <= g -> h g = 0) : xL h [] w w' h :=
  ⟨ho, ht, hp, hs, λg hg _ => hb g hg, λg j hg _ => World.cell?_of_block (w := w) (hb g hg), λ_ _ => aj _, λ_ _ _ => rfl, λg hg => eM g (az hs hg),
   λg hg => ⟨bn hg.1 hs, λj => by rw [World.frozen?_of_block (w := w) (hb g hg.1)]; exact hg.2 j⟩⟩
theorem xt{Lc:List A}{x:D}{v:Value}{w w':World}{h:Nat->Nat}{F:List Nat}{vs:List Value}{h':Nat->Nat}(hv:Rp w' x v [])(hc:xL h F w w' h')(ho:fS Lc vs=[]) :
  ∃v1 us F1 F2 h1,Ending.returned v=.returned v1/\TE us v1/\kG h1 w' [.val false [.d x]] us F1/\kG h1 w' [] (fS Lc vs) F2/\(F1++F2).Nodup/\(∀g∈F1++F2,(w.heap.size<=g\/g∈F)/\g < w'.heap.size)/\xL h F w w' h1:=by
 refine⟨v,[v],[],[],h',rfl,.inl rfl,?_,by rw[ho];exact⟨rfl,rfl⟩,by simp,λg hg=>by simp at hg,hc⟩;simp only[kG,AR,gA,CF];exact⟨v,[],[],[],rfl,rfl,⟨[v],⟨v,[],[],[],rfl,rfl,⟨rfl,[],hv,λbe hb=>by simp at hb⟩,rfl,rfl⟩,(λh=>by cases h),λ_=>rfl⟩,rfl,rfl⟩
theorem Q5(n:Int)(h:-9223372036854775808<=n/\n<=9223372036854775807):(Lib.itoa n).length<=4096:=by
 have hd:∀(k u:Nat),u < 10 ^ (k+1)->(Lib.decDigits u).length<=k+1:=by
  intro k
  induction k with
  |zero=>intro u hu;rw[Lib.decDigits,dif_pos (by simpa using hu)];simp
  |succ k ih=>
   intro u hu;rw[Lib.decDigits];split
   ·simp
   ·have:=ih (u / 10) (by rw[Nat.div_lt_iff_lt_mul (by decide)];simpa [Nat.pow_succ] using hu);simp
    omega
 unfold Lib.itoa;split
 ·have:=hd 19 n.natAbs (by simp;omega);simp;omega
 ·have:=hd 19 n.toNat (by simp;omega);omega
theorem vj:∀(l:List UInt8) (c:UInt8),-1<=Lib.indexByte l c/\Lib.indexByte l c<=l.length
 |[],c=>by simp[Lib.indexByte]
 |b::l,c=>by
  have ih:=vj l c;simp only[Lib.indexByte,aE];split
  ·omega
  ·split<;>omega
theorem x9001(args rs outs:List A)(he:XT 9001 args=some (rs,outs)):mL Tryz.prog (num 9001) args rs outs:=by
 simp only[XT,if_true]at he
 split at he
 ·rename_i n;simp only[aa,ao]at he;obtain⟨rfl,rfl⟩:=he;intro w h vs F hL hA jk ic eM;simp only[kG,AR,gA,CF]at hA;obtain⟨u,eb,F1,F2,rfl,rfl,⟨us,⟨v1,ZS,G1,G2,rfl,rfl,⟨rfl,G,uK,_⟩,rfl,rfl⟩,_,hu⟩,rfl,rfl⟩:=hA;have hu:=hu trivial;simp only[bq,and_true]at hu;subst hu;simp only[Rp]at uK;obtain⟨rfl,rfl,hw⟩:=uK;have hb:=wJ hw;obtain⟨g0,yU⟩:=bF.1 (show (Tryz.prog.globalNamed zt).isSome=true by kernel_rfl);obtain⟨_,_,X6⟩:=hL g0 yU;refine Calls.mono (Tryz.strconv_Itoa n hb.1 hb.2 w X6) λe w' hp=>?_;obtain⟨rfl,k,os,rfl⟩:=hp;refine xt ?_ (zO rfl rfl rfl ?_ ?_ eM) rfl
  ·simp only[Rp];refine⟨trivial,trivial,?_⟩;have hl:=Q5 n hb;simp only[n8,pX,maxLen];omega
  ·simp[Sort.grow]
  ·intro g hg;simp only[Sort.grow,World.heap_drewN];rw[Array.getElem?_append_left hg]
 ·cases he
theorem x9002(args rs outs:List A)(he:XT 9002 args=some (rs,outs)):mL Tryz.prog (num 9002) args rs outs:=by
 simp only[XT,ax,if_false,if_true]at he
 split at he
 ·rename_i s c;simp only[aa,ao]at he;obtain⟨rfl,rfl⟩:=he;intro w h vs F hL hA jk ic eM;simp only[kG,AR,gA,CF]at hA;obtain⟨u,eb,F1,F2,rfl,rfl,⟨us,⟨v1,ZS,G1,G2,rfl,rfl,⟨rfl,G,uK,_⟩,rfl,rfl⟩,_,hu⟩,u2,vs2,H1,H2,rfl,rfl,⟨us2,⟨v2,vs3,G3,G4,rfl,rfl,⟨rfl,G5,HL,_⟩,rfl,rfl⟩,_,NG⟩,rfl,rfl⟩:=hA;have hu:=hu trivial;have NG:=NG trivial;simp only[bq,and_true]at hu NG;subst hu NG;simp only[Rp]at uK HL;obtain⟨rfl,rfl,hs⟩:=uK;obtain⟨rfl,rfl,hc⟩:=HL;refine Calls.mono (Tryz.strings_IndexByte s c w) λe w' hp=>?_;obtain⟨rfl,rfl⟩:=hp;refine xt ?_ (zO rfl rfl rfl (aj _) (λ_ _=>rfl) eM) rfl;simp only[Rp];refine⟨trivial,trivial,?_⟩;have hl:=vj s.data.toList c.toNat.toUInt8;have hz:s.data.toList.length<=maxLen:=by rw[eI];exact hs
  simp only[maxLen]at hz;exact bN (by omega)
 ·cases he
theorem Ax:∀(bs es:List Bool) (i:Nat) (b e:Bool),bs[i]?=some b->es[i]?=some e->(cF bs (es.take i))[i]?=some b/\cF bs (es.take (i+1))=(cF bs (es.take i)).set i (b ||e)/\lg bs (es.take (i+1))=(lg bs (es.take i) ||(e && !b))
 |[],_,_,_,_,hb,_=>by simp at hb
 |a::bs,[],_,_,_,_,he=>by simp at he
 |a::bs,x::es,0,b,e,hb,he=>by
  simp only[List.getElem?_cons_zero,aa]at hb he;subst hb he;cases bs<;>simp[cF,lg]
 |a::bs,x::es,i+1,b,e,hb,he=>by
  simp only[List.getElem?_cons_succ]at hb he;obtain⟨h1,h2,h3⟩:=Ax bs es i b e hb he;simp only[cD,cF,lg,List.getElem?_cons_succ,List.set_cons_succ,h1,h2,h3,fR,and_self]
theorem Ox{w:World}{g:Nat}{T:TypeId}{vs:List Value}(h:kX w g T vs):gk w g (.cells vs.toArray T (0,0))=w:=by
 unfold gk;have e:w.heap.setIfInBounds g (.cells vs.toArray T (0,0))=w.heap:=by
  apply Array.ext_getElem?
  intro k;rw[Array.getElem?_setIfInBounds];split
  ·rename_i hk;subst hk;rw[if_pos h.lt];exact h.symm
  ·rfl
 rw[e]
set_option maxHeartbeats 1600000 in
theorem x9004:ry Tryz.prog (num 9004):=by
 intro w g T bs es c b o m cc rest hB QX hbg hlen XH;simp only[maxLen]at XH;have h0:kX (gk w g (.cells ((cF bs (es.take 0)).map Value.bool++rest).toArray T (0,0))) g T ((cF bs (es.take 0)).map Value.bool++rest):=hB.kz T _;have hj0:cF bs (es.take 0)=bs:=by cases bs<;>simp[cF]
 have hw0:gk w g (.cells ((cF bs (es.take 0)).map Value.bool++rest).toArray T (0,0))=w:=by rw[hj0];exact Ox hB
 refine enter (N:=28) Tryz.func205 rfl Tryz.ntmps205 rfl ?_;refine iq ?_;refine dP ?_;refine eP wn (cX (hY ec) ?_);refine iI ?_;refine iq ?_;refine dP ?_;refine eP wn (cX (hY ec) ?_);refine iI ?_;refine iq ?_;refine iq ?_;refine dP ?_;refine eP wn (cX (fN (et (v:=.slice (some ⟨b,o,none⟩) es.length cc) rfl)) ?_);refine eP wn (cX (DZ Tryz.underlying157 (et (v:=.slice (some ⟨b,o,none⟩) es.length cc) rfl)) ?_);refine eP wn (cX (fN ec) ?_);refine iI ?_;refine tj ?_;refine Gj (λμ f w'=>∃(i:Nat),f 0=.slice (some ⟨g,0,none⟩) bs.length c/\f 1=.slice (some ⟨b,o,none⟩) es.length cc/\f 5=.bool (lg bs (es.take i))/\f 8=.int .i64 (es.length:Int)/\f 9=.int .i64 (i:Int)/\i<=es.length/\w'=gk w g (.cells ((cF bs (es.take i)).map Value.bool++rest).toArray T (0,0))/\μ=es.length - i) (es.length - 0) ?_ ?_
 ·exact⟨0,rfl,rfl,by show Value.bool false=_;cases bs<;>rfl,rfl,rfl,qL _,hw0.symm,rfl⟩
 rintro μ f1 w1 ⟨i,s0,s1,s5,s8,s9,hi,rfl,rfl⟩
 refine iq ?_;refine dP ?_;by_cases ic:(i:Int) < (es.length:Int)
 rotate_left
 ·refine eP wn (cX (IZ (r:=false) (et (v:=.int .i64 (i:Int)) s9) (et (v:=.int .i64 (es.length:Int)) s8) (V2 ic)) ?_);refine iI ?_;refine iq ?_;refine uD (et (v:=.bool false) rfl) ?_;refine Gi ?_;refine Eq.mpr (if_pos rfl) ?_;have hie:i=es.length:=by omega
  subst hie;rw[aW]at s5 ⊢;refine iq ?_;refine dP ?_;refine eP wn (cX (fN (et (v:=.bool (lg bs es)) s5)) ?_);refine eP wn (cX (hY (et (v:=.bool (lg bs es)) rfl)) ?_);refine iI ?_;refine DY ?_;exact⟨_,DM (v:=.bool (lg bs es)) Tryz.results205 rfl,rfl,rfl⟩
 have JW:i < es.length:=by omega
 obtain⟨e,he⟩:∃e,es[i]?=some e:=⟨es[i],by simp[JW]⟩
 obtain⟨x,hx⟩:∃x,bs[i]?=some x:=⟨bs[i]'(by omega),by simp[show i < bs.length by omega]⟩
 obtain⟨j1,j2,j3⟩:=Ax bs es i x e hx he;have Uf:=iH bs (es.take i);generalize air:cF bs (es.take i)=cur at *;have hB1:=hB.kz T (cur.map Value.bool++rest);have kl:(gk w g (.cells (cur.map Value.bool++rest).toArray T (0,0))).cell? ⟨b,o+i * 1,none⟩=some (.bool e):=by
  rw[World.cell?_of_block (w:=w) ((Tj.gk w g (cur.map Value.bool++rest).toArray T).block b hbg),nF];exact QX i _ (by simp[he])
 have nR:(gk w g (.cells (cur.map Value.bool++rest).toArray T (0,0))).cell? ⟨g,0+i * 1,none⟩=some (.bool x):=by
  rw[hB1.cell,nF,bo,cl (by simp;omega)];simp[j1]
 refine eP wn (cX (IZ (r:=true) (et (v:=.int .i64 (i:Int)) s9) (et (v:=.int .i64 (es.length:Int)) s8) (V3 ic)) ?_);refine iI ?_;refine iq ?_;refine xD (et (v:=.bool true) rfl) ?_;refine uE ?_;refine iq ?_;refine tj ?_;refine iq ?_;refine dP ?_;refine eP wn (cX (fN (et (v:=.int .i64 (i:Int)) s9)) ?_);refine eP wn (cX (hY (et (v:=.int .i64 (i:Int)) rfl)) ?_);refine iI ?_;refine iq ?_;refine dP ?_;refine eP wn (cX (fN (et (v:=.slice (some ⟨b,o,none⟩) es.length cc) s1)) ?_);refine eP wn (cX (fN (et (v:=.int .i64 (i:Int)) rfl)) ?_);refine eP wn (cX (qF (i:=i) Tryz.underlying157 Tryz.sizeOf4 (et (v:=.slice (some ⟨b,o,none⟩) es.length cc) rfl) (et (v:=.int .i64 (i:Int)) rfl) rfl JW) ?_);refine eP wn (cX (Gl (v:=.bool e) Tryz.isAgg4 (et (v:=.pointer (some ⟨b,o+i * 1,none⟩)) rfl) kl) ?_);refine eP wn (cX (fN (et (v:=.bool e) rfl)) ?_);cases e with
 |false=>
  refine xf (wx rfl) ?_;refine xf (wx rfl) ?_;refine xf (wx rfl) ?_;refine xf (wx rfl) ?_;refine xf (wx rfl) ?_;refine eP wn (cX (I0 (v:=.bool false) (et (v:=.bool false) rfl) ec) ?_);refine iI ?_;refine uD (et (v:=.bool false) rfl) ?_;refine uE ?_;refine dP ?_;refine eP wn (cX (MV (et (v:=.int .i64 (i:Int)) s9) ec (by omega)) ?_);refine eP wn (cX (fN (et (v:=.int .i64 ((i:Int)+1)) rfl)) ?_);refine iI ?_;refine⟨es.length - (i+1),by omega,i+1,s0,s1,?_,s8,VO (by omega),by omega,?_,rfl⟩
  ·exact (show f1 5=_ from s5).trans (by rw[j3];simp)
  ·rw[j2];have:cur.set i (x ||false)=cur:=by
    apply ed
    intro k;rw[iu];split
    ·rename_i hk;subst hk;rw[j1];simp;omega
    ·rfl
   rw[this]
 |true=>
  refine eP (wy rfl) (cX (fN (et (v:=.slice (some ⟨g,0,none⟩) bs.length c) s0)) ?_);refine eP (wy rfl) (cX (fN (et (v:=.int .i64 (i:Int)) rfl)) ?_);refine eP (wy rfl) (cX (qF (i:=i) Tryz.underlying157 Tryz.sizeOf4 (et (v:=.slice (some ⟨g,0,none⟩) bs.length c) rfl) (et (v:=.int .i64 (i:Int)) rfl) rfl (by omega)) ?_);refine eP (wy rfl) (cX (Gl (v:=.bool x) Tryz.isAgg4 (et (v:=.pointer (some ⟨g,0+i * 1,none⟩)) rfl) nR) ?_);refine eP (wy rfl) (cX (WZ (b:=x) (et (v:=.bool x) rfl)) ?_);refine eP wn (cX (I1 (v:=.bool !x) (et (v:=.bool true) rfl) (et (v:=.bool !x) rfl)) ?_);refine iI ?_;cases x with
  |true=>
   refine uD (et (v:=.bool false) rfl) ?_;refine uE ?_;refine dP ?_;refine eP wn (cX (MV (et (v:=.int .i64 (i:Int)) s9) ec (by omega)) ?_);refine eP wn (cX (fN (et (v:=.int .i64 ((i:Int)+1)) rfl)) ?_);refine iI ?_;refine⟨es.length - (i+1),by omega,i+1,s0,s1,?_,s8,VO (by omega),by omega,?_,rfl⟩
   ·exact (show f1 5=_ from s5).trans (by rw[j3];simp)
   ·rw[j2];have:cur.set i (true ||true)=cur:=by
     apply ed
     intro k;rw[iu];split
     ·rename_i hk;subst hk;rw[j1];simp;omega
     ·rfl
    rw[this]
  |false=>
   refine xD (et (v:=.bool true) rfl) ?_;refine iq ?_;refine dP ?_;refine eP wn (cX (fN (et (v:=.slice (some ⟨g,0,none⟩) bs.length c) s0)) ?_);refine eP wn (cX (fN (et (v:=.int .i64 (i:Int)) rfl)) ?_);refine eP wn (cX (qF (i:=i) Tryz.underlying157 Tryz.sizeOf4 (et (v:=.slice (some ⟨g,0,none⟩) bs.length c) rfl) (et (v:=.int .i64 (i:Int)) rfl) rfl (by omega)) ?_);refine eP wn (FF (VR (v:=.bool true) Tryz.sizeOf4 (et (v:=.pointer (some ⟨g,0+i * 1,none⟩)) rfl) ec rfl hB1 (by simp;omega)) ?_);refine iI ?_;refine dP ?_;refine eP wn (cX (hY ec) ?_);refine iI ?_;refine dP ?_;refine eP wn (cX (MV (et (v:=.int .i64 (i:Int)) s9) ec (by omega)) ?_);refine eP wn (cX (fN (et (v:=.int .i64 ((i:Int)+1)) rfl)) ?_);refine iI ?_;refine⟨es.length - (i+1),by omega,i+1,s0,s1,?_,s8,VO (by omega),by omega,?_,rfl⟩
   ·rw[j3];show Value.bool true=_;simp
   ·rw[j2,DS]
    congr 2
    rw[bo,nF,List.set_append_left _ _ (by simp;omega)];simp[List.map_set]
def T0(f:Nat):Option KF:=if f=333 then some abO else none
theorem Xc(a t:ByteArray)(x y:D):mL Tryz.prog (num 333) [.val true [.d (.str a),.d x,.d y],.box [.d (.str t)]] [.val false [.d (.bool (decide (a=t)))]] [.box [.d (.str t)]]:=by
 have h1:dd T0 333 [.val true [.d (.str a),.d x,.d y],.box [.d (.str t)]]=some ([.val false [.d (.bool (decide (a=t)))]],[.box [.d (.str t)]]):=by
  rw[sc (f:=333) rfl rfl];simp -implicitDefEqProofs only [Qt,go_sem,bI,ax,aZ,ba,aB]
 obtain⟨n,hn⟩:=(sU T0 333 _ _).1 h1;have hT:∀f kf,T0 f=some kf->O_ Tryz.prog num f kf:=λf kf h=>by
  unfold T0 at h
  split at h
  ·rename_i hf;cases h;rw[hf];exact .of acm rfl
  ·cases h
 exact sM (by kernel_rfl) (λ_=>x9004) hT n _ _ _ _ hn
theorem Il{t a:ByteArray}{ds:List D}{es:List (List D)}{i r:Int}(h:Oh t ((.str a::ds)::es) i=some r):(a=t/\r=i)\/(a≠t/\Oh t es (i+1)=some r):=by
 simp only[Oh]at h
 split at h
 ·rename_i he;cases h;exact .inl ⟨he,rfl⟩
 ·rename_i he;exact .inr ⟨he,h⟩
theorem VQ{P:Program}{ρ:Operand->Value}{dst:Option Tmp}{ty:TypeId}{pos:String}{aft:Array Edge}{gd:Option (Nat×Bool)}{w:World}{F:FuncId}{x:Operand}{Lc:Array Operand}{ts:Array TypeId}{vs cap:Array Value}(hC:∀(args:Array Value) (w:World),(callFunc F args).run P w=.ok (.enter F args) w)(hF:ρ x=.func (.func F) #[] cap)(ha:Lc.map ρ=vs) :
  (execOp ρ ⟨dst,.call {callee:=.value x,args:=Lc,argTypes:=ts },ty,pos,aft,gd⟩).run P w=.ok (.enter F (vs++cap)) w:=by
 subst ha;simp[execOp,resolve,Deferred.ofValue,hF,invoke,hC]
theorem Ys{P:Program}{ρ:Operand->Value}{dst:Option Tmp}{ty:TypeId}{pos:String}{aft:Array Edge}{gd:Option (Nat×Bool)}{w:World}{F:FuncId}{x:Operand}{v:Value}(hx:ρ x=v) :
  (execOp ρ ⟨dst,.makeFunc (.func F) #[] #[x],ty,pos,aft,gd⟩).run P w=.ok (.value (.func (.func F) #[] #[v])) w:=by
 subst hx;simp[execOp,Instr.makeFunc]
set_option maxHeartbeats 1600000 in
theorem Yi(t:ByteArray)(es:List (List D))(fl:Bool)(r:Int)(hr:Oh t es 0=some r)(w:World)(h:Nat->Nat)(A0:Option Addr)(n c:Nat)(G:Fp)(uK:Rp w (.list 3 fl es) (.slice A0 n c) G)(jV:dm h G)(g:Nat)(T:TypeId)(hb:kX w g T [.string t])(yU:h g=0)(hts:t.size<=maxLen)
  (eM:∀y,w.heap.size<=y->h y=0) (hgl:g < w.heap.size) (hL:OO Tryz.prog w [g]) :
  Calls Tryz.prog 164 #[.slice A0 n c,.func (.func 165) #[] #[.pointer (some ⟨g,0,none⟩)]] w λe w'=>e=.returned (.int .i64 r)/\IntKind.i64.wrap r=r/\∃h',xL h [g] w w' h':=by
 simp only[Rp]at uK;obtain⟨A1,n1,c1,sS,q2,q3,q4,q5,q6,q7,q8⟩:=uK;simp only[Value.slice.injEq]at sS;obtain⟨rfl,rfl,rfl⟩:=sS;have XH:n<=maxLen:=az q3 q4;simp only[maxLen]at XH;refine enter (N:=19) Tryz.func164 rfl Tryz.ntmps164 rfl ?_;refine iq ?_;refine dP ?_;refine eP wn (cX (hY ec) ?_);refine iI ?_;refine iq ?_;refine iq ?_;refine dP ?_;refine eP wn (cX (fN (et (v:=.slice A0 n c) rfl)) ?_);refine eP wn (cX (DZ Tryz.underlying29 (et (v:=.slice A0 n c) rfl)) ?_);refine eP wn (cX (fN ec) ?_);refine iI ?_;refine tj ?_;refine Gj (λμ f w'=>∃(i:Nat) (h':Nat->Nat) (T':TypeId),f 0=.slice A0 n c/\f 1=.func (.func 165) #[] #[.pointer (some ⟨g,0,none⟩)]/\f 7=.int .i64 (n:Int)/\f 8=.int .i64 (i:Int)/\i<=n/\Oh t (es.drop i) i=some r/\xL h [g] w w' h'/\kX w' g T' [.string t]/\h' g=0/\μ=n - i) (n - 0) ?_ ?_
 ·exact⟨0,h,T,rfl,rfl,rfl,rfl,qL _,by simpa using hr,xL.refl eM,hb,yU,rfl⟩
 rintro μ f1 w1 ⟨i,h1,T1,s0,s1,s7,s8,hi,hm,kl,yv,hz1,rfl⟩
 refine iq ?_;refine dP ?_;by_cases ic:(i:Int) < (n:Int)
 rotate_left
 ·refine eP wn (cX (IZ (r:=false) (et (v:=.int .i64 (i:Int)) s8) (et (v:=.int .i64 (n:Int)) s7) (V2 ic)) ?_);refine iI ?_;refine iq ?_;refine uD (et (v:=.bool false) rfl) ?_;refine Gi ?_;refine Eq.mpr (if_pos rfl) ?_;refine iq ?_;refine dP ?_;refine eP wn (cX (hY ec) ?_);refine iI ?_;refine DY ?_;have hd:es.drop i=[]:=ez (by omega);rw[hd]at hm;simp only[Oh,aa]at hm;subst hm;exact⟨_,DM (v:=.int .i64 (-1)) Tryz.results164 rfl,rfl,rfl,h1,kl⟩
 have JW:i < n:=by omega
 obtain⟨e,Ez⟩:∃e,es[i]?=some e:=⟨es[i]'(by omega),by simp[show i < es.length by omega]⟩
 have yw:=q7 e (cK Ez);have hde:es.drop i=e::es.drop (i+1):=gY es i e (by rw[cV];exact Ez);rw[hde]at hm;rcases q8 with ⟨q8,_⟩|⟨_,b,o,xs,G1,rfl,rfl,a2,a3⟩
 ·omega
 obtain⟨GE,NB,hGE⟩:=a2.at_ q7 Ez;have jU:∀be∈(b,o+n * 3)::G1,∀j,j < be.2->w1.cell? ⟨be.1,j,none⟩=w.cell? ⟨be.1,j,none⟩:=λbe n5 j hj=>
  kl.cell be.1 j (by
   rcases cY be.1 w.heap.size with hl|hl
   ·exact hl
   ·have h0:=jV be n5;rw[eM _ hl]at h0;omega) (bn hj (jV be n5))
 have X1:ee w1 e ((xs.drop (i * 3)).take 3) GE:=NB.cG _ (λbe n5 j hj=>jU be (by simp[hGE be n5]) j hj);have QV:dm h1 GE:=λbe n5=>by
  have h0:=jV be (by simp[hGE be n5]);have hl:be.1 < w.heap.size:=by
   rcases cY be.1 w.heap.size with hl|hl
   ·exact hl
   ·exact ee.lt _ NB be n5
  exact az h0 (kl.mono _ hl)
 have gF:gz w1 b (o+i * 3) ((xs.drop (i * 3)).take 3):=by
  have hbk:i * 3+3<=n * 3:=by omega
  have h0:=a3.sub (i * 3) 3;intro j u hu;have hj:j < 3:=by
   have:=(aI.1 hu).1;simp at this;omega
  rw[jU (b,o+n * 3) (by simp) _ (by simp only;omega)];exact h0 j u hu
 obtain⟨d1,d2,d3,rfl⟩:∃d1 d2 d3,e=[d1,d2,d3]:=by
  match e,yw with
  |[d1,d2,d3],_=>exact⟨d1,d2,d3,rfl⟩
 obtain⟨a,rfl⟩:∃a,d1=.str a:=by
  cases d1 with
  |str a=>exact⟨a,rfl⟩
  |_=>simp[Oh]at hm
 refine eP wn (cX (IZ (r:=true) (et (v:=.int .i64 (i:Int)) s8) (et (v:=.int .i64 (n:Int)) s7) (V3 ic)) ?_);refine iI ?_;refine iq ?_;refine xD (et (v:=.bool true) rfl) ?_;refine uE ?_;refine iq ?_;refine tj ?_;refine iq ?_;refine dP ?_;refine eP wn (cX (fN (et (v:=.int .i64 (i:Int)) s8)) ?_);refine eP wn (cX (hY (et (v:=.int .i64 (i:Int)) rfl)) ?_);refine iI ?_;refine iq ?_;refine dP ?_;obtain⟨xe,hxe⟩:∃xe,(xs.drop (i * 3)).take 3=xe:=⟨_,rfl⟩
 rw[hxe]at X1 gF;have Up:xe.length=3:=ee.length _ X1;refine eP wn (cX (fN (et (v:=.func (.func 165) #[] #[.pointer (some ⟨g,0,none⟩)]) s1)) ?_);refine eP wn (cX (fN (et (v:=.slice (some ⟨b,o,none⟩) n c) s0)) ?_);refine eP wn (cX (fN (et (v:=.int .i64 (i:Int)) rfl)) ?_);refine eP wn (cX (qF (i:=i) Tryz.underlying29 Tryz.sizeOf69 (et (v:=.slice (some ⟨b,o,none⟩) n c) rfl) (et (v:=.int .i64 (i:Int)) rfl) rfl JW) ?_);refine eP wn (cX (Gn (k:=3) Tryz.isAgg69 Tryz.sizeOf69 (et (v:=.pointer (some ⟨b,o+i * 3,none⟩)) rfl) Up gF) ?_);have hL1:OO Tryz.prog w1 [g]:=hL.step kl.size (λy hy hn=>kl.block y hy hn) (λy hy=>.inr hy);have agv:g < w1.heap.size:=bn hgl kl.size;have pG:=Xc a t d2 d3 w1 h1 [.agg xe.toArray,.pointer (some ⟨g,0,none⟩)] [g] hL1 (by
   simp only[kG,AR,gA,CF];have abv:=X1;simp only[ee]at abv;obtain⟨v1,t1,E1,E1',rfl,rfl,p1,v2,t2,E2,E2',rfl,rfl,p2,v3,t3,E3,E3',rfl,rfl,p3,rfl,rfl⟩:=abv;refine⟨_,_,[],[g],rfl,rfl,⟨[v1,v2,v3],⟨v1,[v2,v3],[],[],rfl,rfl,⟨rfl,E1,p1,λbe hb=>QV be (by simp[hb])⟩,v2,[v3],[],[],rfl,rfl,⟨rfl,E2,p2,λbe hb=>QV be (by simp[hb])⟩,v3,[],[],[],rfl,rfl,⟨rfl,E3,p3,λbe hb=>QV be (by simp[hb])⟩,rfl,rfl⟩,(λ_=>rfl),λh=>by cases h⟩,_,_,[g],[],rfl,rfl,⟨g,T1,[.string t],[],rfl,yv,hz1,rfl,.string t,[],[],[],rfl,rfl,⟨rfl,[],?_,λbe hb=>by simp at hb⟩,rfl,rfl⟩,rfl,rfl⟩;simp only[Rp];exact⟨trivial,trivial,hts⟩) (by simp) (λy hy=>by simp at hy;rw[hy];exact agv) kl.eM
 refine eP wn (xj (VQ (jT Tryz.func165 rfl rfl) (et (v:=.func (.func 165) #[] #[.pointer (some ⟨g,0,none⟩)]) rfl) (a1 (et (v:=.agg xe.toArray) rfl))) pG ?_);intro en w2 hp;obtain⟨v,us,F1,F2,h2,rfl,QU,qX,HJ,_,_,oW⟩:=hp;simp only[kG,AR,gA,CF]at qX;obtain⟨u,ZS,H1,H2,rfl,_,⟨us1,⟨v1,vs2,H3,H4,X8,_,⟨_,GR,ND,_⟩,NG,_⟩,_,X9⟩,rfl,_⟩:=qX;have X9:=X9 trivial;rw[NG]at X8;rw[X8]at X9;simp only[bq,and_true]at X9;subst X9;simp only[Rp]at ND;have hv:v=.bool (decide (a=t)):=by
  rcases QU with h|⟨h,_⟩
  ·simp only[bq,and_true]at h;rw[<- h];exact ND.1
  ·simp at h
 subst hv;simp only[fS,kG,AR,gA,CF]at HJ;obtain⟨u2,vs3,H5,H6,hu4,_,⟨g2,T2,vs4,F3,hg2,Ap,hz2,_,v2,vs5,H7,H8,hv4,_,⟨_,GS,HL,_⟩,hv5,_⟩,_,_⟩:=HJ;simp only[bq]at hu4;obtain⟨rfl,rfl⟩:=hu4;simp only[Value.pointer.injEq,aa,Addr.mk.injEq,and_true]at hg2;subst hg2;simp only[Rp]at HL;subst hv5;rw[HL.1]at hv4;subst hv4;have nR:xL h [g] w w2 h2:=kl.trans oW;refine⟨_,rfl,?_⟩;refine iI ?_;by_cases JT:a=t
 ·have JY:=Il hm;rcases JY with ⟨_,rfl⟩|⟨h0,_⟩
  ·refine xD (et (v:=.bool true) (by simp[yo,JT])) ?_;refine iq ?_;refine dP ?_;refine eP wn (cX (fN (et (v:=.int .i64 (i:Int)) rfl)) ?_);refine eP wn (cX (hY (et (v:=.int .i64 (i:Int)) rfl)) ?_);refine iI ?_;refine DY ?_;exact⟨_,DM (v:=.int .i64 (i:Int)) Tryz.results164 rfl,rfl,bN (by omega),h2,nR⟩
  ·exact absurd JT h0
 ·have JY:=Il hm;rcases JY with ⟨h0,_⟩|⟨_,JY⟩
  ·exact absurd h0 JT
  ·refine uD (et (v:=.bool false) (by simp[yo,JT])) ?_;refine uE ?_;refine dP ?_;refine eP wn (cX (MV (et (v:=.int .i64 (i:Int)) s8) ec (by omega)) ?_);refine eP wn (cX (fN (et (v:=.int .i64 ((i:Int)+1)) rfl)) ?_);refine iI ?_;exact⟨n - (i+1),by omega,i+1,h2,T2,s0,s1,s7,VO (by omega),by omega,by simpa using JY,nR,Ap,hz2,rfl⟩
theorem x9003(args rs outs:List A)(he:XT 9003 args=some (rs,outs)):mL Tryz.prog (num 9003) args rs outs:=by
 simp only[XT,ax,if_false,if_true]at he
 split at he
 ·rename_i fl es t;simp only[ad,ao]at he;obtain⟨r,hr,rfl,rfl⟩:=he;intro w h vs F hL hA jk ic eM;simp only[kG,AR,gA,CF]at hA;obtain⟨u,eb,F1,F2,rfl,rfl,⟨us,⟨v1,ZS,G1,G2,rfl,rfl,⟨rfl,G,uK,jV⟩,rfl,rfl⟩,_,hu⟩,u2,vs2,H1,H2,rfl,rfl,⟨us2,⟨v2,vs3,G3,G4,rfl,rfl,⟨rfl,G5,HL,_⟩,rfl,rfl⟩,_,NG⟩,rfl,rfl⟩:=hA;have hu:=hu trivial;have NG:=NG trivial;simp only[bq,and_true]at hu NG;subst hu NG;have X2:=uK;simp only[Rp]at uK HL;obtain⟨A0,n,c,rfl,_⟩:=uK;obtain⟨rfl,rfl,hts⟩:=HL;refine enter (N:=8) Tryz.func140 rfl Tryz.ntmps140 rfl ?_;refine iq ?_;refine dP ?_;have lJ:∀{ty:TypeId} {pos:String} {aft:Array Edge} {gd:Option (Nat×Bool)},(execOp (fr (λi=>#[Value.slice A0 n c,Value.string t].getD i undef) 8).eval ⟨some 3,.box 9 (.tmp 1),ty,pos,aft,gd⟩).run Tryz.prog w=.ok (.value (.pointer (some ⟨w.heap.size,0,none⟩))) (w.alloc (.cells [Value.string t].toArray 9)):=by
   intro ty pos aft gd;have h0:(fr (λi=>#[Value.slice A0 n c,Value.string t].getD i undef) 8).eval (.tmp 1)=.string t:=et rfl;have h1:(execOp (fr (λi=>#[Value.slice A0 n c,Value.string t].getD i undef) 8).eval ⟨some 3,.box 9 (.tmp 1),ty,pos,aft,gd⟩).run Tryz.prog w=.ok (.value (.pointer (some ⟨w.heap.size,0,none⟩))) (w.alloc (.cells ((fr (λi=>#[Value.slice A0 n c,Value.string t].getD i undef) 8).eval (.tmp 1)).cells 9)):=by
    simp[execOp,Instr.box,newVar,newRow,newObj,Sem.run]
   rw[h0]at h1;exact h1
  refine eP wn (DH lJ ?_);intro w1 X3 Ny hB;refine eP wn (cX (hY ec) ?_);refine iI ?_;refine iq ?_;refine dP ?_;refine eP wn (cX (fN (et (v:=.slice A0 n c) rfl)) ?_);refine eP wn (cX (Ys (et (v:=.pointer (some ⟨w.heap.size,0,none⟩)) rfl)) ?_);have kl:xL h [] w w1 h:=zO Ny.os Ny.tape Ny.output Ny.size (λg hg=>Ny.block g hg) eM;have ND:Rp w1 (.list 3 fl es) (.slice A0 n c) G:=X2.cG _ (λbe hb j hj=>World.cell?_of_block (w:=w) (Ny.block _ (Rp.lt _ X2 be hb)));have hL1:OO Tryz.prog w1 [w.heap.size]:=hL.step Ny.size (λg hg _=>Ny.block g hg) (λg hg=>by simp at hg;omega);have pG:=Yi t es fl r hr w1 h A0 n c G ND jV w.heap.size 9 hB (eM _ (aj _)) hts kl.eM (by omega) hL1;refine eP wn (xj (xH (jT Tryz.func164 rfl rfl) rfl (a2 (et (v:=.slice A0 n c) rfl) (et (v:=.func (.func 165) #[] #[.pointer (some ⟨w.heap.size,0,none⟩)]) rfl))) pG ?_)
  rintro e w2 ⟨rfl,hrw,h2,oW⟩
  refine⟨_,rfl,?_⟩;refine eP wn (cX (hY (et (v:=.int .i64 r) rfl)) ?_);refine iI ?_;refine DY ?_;refine⟨_,DM (v:=.int .i64 r) Tryz.results140 rfl,?_⟩;have hcc:xL h [] w w2 h2:=⟨oW.os.trans kl.os,oW.tape.trans kl.tape,oW.output.trans kl.output,az kl.size oW.size,
   λg hg _=>(oW.block g (by omega) (by simp;omega)).trans (kl.block g hg (by simp)),λg j hg hj=>(oW.cell g j (by omega) hj).trans (kl.cell g j hg hj),
   λg hg=>oW.mono g (by omega),λg hg _=>oW.hold g (by omega) (by simp;omega),oW.eM,λg hg=>oW.eV g (kl.eV g hg)⟩
  exact xt (by simp only[Rp];exact⟨trivial,trivial,hrw⟩) hcc rfl
 ·cases he
end
end Go.Proofs.YtcdjbelccndadaaGreatDoor
