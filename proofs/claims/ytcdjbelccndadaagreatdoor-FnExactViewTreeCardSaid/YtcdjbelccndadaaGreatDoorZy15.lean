/- Part of the proof: a machine over plain data, its proof, the functions of the program run on symbols, what they answer. Condition: none. -/
import Derived.Test.YtcdjbelccndadaaGreatDoorZy04
import Derived.Test.YtcdjbelccndadaaGreatDoorZy10
import Derived.Test.YtcdjbelccndadaaGreatDoorZy14
set_option linter.unusedVariables false
set_option linter.unusedSimpArgs false
open Array renaming length_toList->eK
open Bool renaming or_assoc->fT
open ByteArray renaming size->n5
open List renaming length_cons->az,getElem?_eq_some_iff->aI,take_length->aU,getElem?_append_left->cl,take_succ_cons->cx,mem_of_getElem?->cK,ext_getElem?->ed,drop_of_length_le->eB,getElem?_set->iz,size_toArray->pV
open List.cons renaming injEq->bw
open Nat renaming le_refl->aj,reduceEqDiff->aw,le_trans->aA,reduceLeDiff->aY,reduceBNe->aZ,zero_add->bm,lt_of_lt_of_le->bp,reduceAdd->bD,lt_or_ge->cY,mul_one->nG,zero_le->qH
open Option renaming map_eq_some_iff->ad,map_some->aD,isSome_iff_exists->bF
open Option.some renaming injEq->aa
open Prod.mk renaming injEq->ak
namespace Go.Proofs.YtcdjbelccndadaaGreatDoor
set_option maxRecDepth 100000
section
open Go.RowKit
theorem xH.refl{h:Nat->Nat}{F:List Nat}{w:World}(eN:∀g,w.heap.size<=g->h g=0):xH h F w w h:=
 ⟨rfl,rfl,rfl,aj _,λ_ _ _=>rfl,λ_ _ _ _=>rfl,λ_ _=>aj _,λ_ _ _=>rfl,eN,λ_ h=>h⟩
theorem xH.trans {h h1 h2 : Nat -> Nat} {F : List Nat} {w w1 w2 : World} (a : xH h F w w1 h1) (b : xH h1 F w1 w2 h2) : xH h F w w2 h2 :=
  ⟨b.os.trans a.os, b.tape.trans a.tape, b.output.trans a.output, aA a.size b.size, λg hg hn => (b.block g (bp hg a.size) hn).trans (a.block g hg hn),
   λg j hg hj => (b.cell g j (bp hg a.size) (bp hj (a.mono g hg))).trans (a.cell g j hg hj), λg hg => aA (a.mono g hg) (b.mono g (bp hg a.size)),
   λg hg hn => (b.hold g (bp hg a.size) hn).trans (a.hold g hg hn), b.eN, λg h => b.eX g (a.eX g h)⟩
theorem zF {h : Nat -> Nat} {w w' : World} (ho : w'.os = w.os) (ht : w'.tape = w.tape) (hp : w'.output = w.output) (hs : w.heap.size <= w'.heap.size) (hb : ∀ g, g < w.heap.size -> w'.heap[g]? = w.heap[g]?) (eN : ∀ g, w.heap.size <= g -> h g = 0) : xH h [] w w' h :=
  ⟨ho, ht, hp, hs, λg hg _ => hb g hg, λg j hg _ => World.cell?_of_block (w := w) (hb g hg), λ_ _ => aj _, λ_ _ _ => rfl, λg hg => eN g (aA hs hg),
   λg hg => ⟨bp hg.1 hs, λj => by rw [World.frozen?_of_block (w := w) (hb g hg.1)]; exact hg.2 j⟩⟩
theorem xn{K8:List A}{x:D}{v:Value}{w w':World}{h:Nat->Nat}{F:List Nat}{vs:List Value}{h':Nat->Nat}(hv:Rp w' x v [])(hc:xH h F w w' h')(ho:fU K8 vs=[]) :
  ∃v1 us F1 F2 h1,Ending.returned v=.returned v1/\TW us v1/\kF h1 w' [.val false [.d x]] us F1/\kF h1 w' [] (fU K8 vs) F2/\(F1++F2).Nodup/\(∀g∈F1++F2,(w.heap.size<=g\/g∈F)/\g < w'.heap.size)/\xH h F w w' h1:=by
 refine⟨v,[v],[],[],h',rfl,.inl rfl,?_,by rw[ho];exact⟨rfl,rfl⟩,by simp,λg hg=>by simp at hg,hc⟩;simp only[kF,AR,gz,Cy];exact⟨v,[],[],[],rfl,rfl,⟨[v],⟨v,[],[],[],rfl,rfl,⟨rfl,[],hv,λbe hb=>by simp at hb⟩,rfl,rfl⟩,(λh=>by cases h),λ_=>rfl⟩,rfl,rfl⟩
theorem Rh(n:Int)(h:-9223372036854775808<=n/\n<=9223372036854775807):(Lib.itoa n).length<=4096:=by
 have hd:∀(k u:Nat),u < 10 ^ (k+1)->(Lib.decDigits u).length<=k+1:=by
  intro k
  induction k with
  |zero=>intro u hu;rw[Lib.decDigits,dif_pos (by simpa using hu)];simp
  |succ k ih=>
   intro u hu;rw[Lib.decDigits];split
   ·simp
   ·have:=ih (u / 10) (by rw[Nat.div_lt_iff_lt_mul (by decide)];simpa [Nat.pow_succ] using hu);simp
    omega
 unfold Lib.itoa;split
 ·have:=hd 19 n.natAbs (by simp;omega);simp;omega
 ·have:=hd 19 n.toNat (by simp;omega);omega
theorem vk:∀(l:List UInt8) (c:UInt8),-1<=Lib.indexByte l c/\Lib.indexByte l c<=l.length
 |[],c=>by simp[Lib.indexByte]
 |b::l,c=>by
  have ih:=vk l c;simp only[Lib.indexByte,az];split
  ·omega
  ·split<;>omega
theorem x9001(args rs outs:List A)(he:XT 9001 args=some (rs,outs)):mI Tryz.prog (num 9001) args rs outs:=by
 simp only[XT,if_true]at he
 split at he
 ·rename_i n;simp only[aa,ak]at he;obtain⟨rfl,rfl⟩:=he;intro w h vs F hL hA jm ig eN;simp only[kF,AR,gz,Cy]at hA;obtain⟨u,dZ,F1,F2,rfl,rfl,⟨us,⟨v1,vs1,G1,G2,rfl,rfl,⟨rfl,G,uJ,_⟩,rfl,rfl⟩,_,hu⟩,rfl,rfl⟩:=hA;have hu:=hu trivial;simp only[bw,and_true]at hu;subst hu;simp only[Rp]at uJ;obtain⟨rfl,rfl,hw⟩:=uJ;have hb:=wI hw;obtain⟨g0,yP⟩:=bF.1 (show (Tryz.prog.globalNamed zk).isSome=true by kernel_rfl);obtain⟨_,_,Yj⟩:=hL g0 yP;refine Calls.mono (Tryz.strconv_Itoa n hb.1 hb.2 w Yj) λe w' hp=>?_;obtain⟨rfl,k,os,rfl⟩:=hp;refine xn ?_ (zF rfl rfl rfl ?_ ?_ eN) rfl
  ·simp only[Rp];refine⟨trivial,trivial,?_⟩;have hl:=Rh n hb;simp only[n5,pV,maxLen];omega
  ·simp[Sort.grow]
  ·intro g hg;simp only[Sort.grow,World.heap_drewN];rw[Array.getElem?_append_left hg]
 ·cases he
theorem x9002(args rs outs:List A)(he:XT 9002 args=some (rs,outs)):mI Tryz.prog (num 9002) args rs outs:=by
 simp only[XT,aw,if_false,if_true]at he
 split at he
 ·rename_i s c;simp only[aa,ak]at he;obtain⟨rfl,rfl⟩:=he;intro w h vs F hL hA jm ig eN;simp only[kF,AR,gz,Cy]at hA;obtain⟨u,dZ,F1,F2,rfl,rfl,⟨us,⟨v1,vs1,G1,G2,rfl,rfl,⟨rfl,G,uJ,_⟩,rfl,rfl⟩,_,hu⟩,u2,vs2,H1,H2,rfl,rfl,⟨us2,⟨v2,vs3,G3,G4,rfl,rfl,⟨rfl,G5,HC,_⟩,rfl,rfl⟩,_,NK⟩,rfl,rfl⟩:=hA;have hu:=hu trivial;have NK:=NK trivial;simp only[bw,and_true]at hu NK;subst hu NK;simp only[Rp]at uJ HC;obtain⟨rfl,rfl,hs⟩:=uJ;obtain⟨rfl,rfl,hc⟩:=HC;refine Calls.mono (Tryz.strings_IndexByte s c w) λe w' hp=>?_;obtain⟨rfl,rfl⟩:=hp;refine xn ?_ (zF rfl rfl rfl (aj _) (λ_ _=>rfl) eN) rfl;simp only[Rp];refine⟨trivial,trivial,?_⟩;have hl:=vk s.data.toList c.toNat.toUInt8;have hz:s.data.toList.length<=maxLen:=by rw[eK];exact hs
  simp only[maxLen]at hz;exact bJ (by omega)
 ·cases he
theorem An:∀(bs es:List Bool) (i:Nat) (b e:Bool),bs[i]?=some b->es[i]?=some e->(cG bs (es.take i))[i]?=some b/\cG bs (es.take (i+1))=(cG bs (es.take i)).set i (b ||e)/\lb bs (es.take (i+1))=(lb bs (es.take i) ||(e && !b))
 |[],_,_,_,_,hb,_=>by simp at hb
 |a::bs,[],_,_,_,_,he=>by simp at he
 |a::bs,x::es,0,b,e,hb,he=>by
  simp only[List.getElem?_cons_zero,aa]at hb he;subst hb he;cases bs<;>simp[cG,lb]
 |a::bs,x::es,i+1,b,e,hb,he=>by
  simp only[List.getElem?_cons_succ]at hb he;obtain⟨h1,h2,h3⟩:=An bs es i b e hb he;simp only[cx,cG,lb,List.getElem?_cons_succ,List.set_cons_succ,h1,h2,h3,fT,and_self]
theorem OD{w:World}{g:Nat}{T:TypeId}{vs:List Value}(h:kW w g T vs):gk w g (.cells vs.toArray T (0,0))=w:=by
 unfold gk;have e:w.heap.setIfInBounds g (.cells vs.toArray T (0,0))=w.heap:=by
  apply Array.ext_getElem?
  intro k;rw[Array.getElem?_setIfInBounds];split
  ·rename_i hk;subst hk;rw[if_pos h.lt];exact h.symm
  ·rfl
 rw[e]
set_option maxHeartbeats 1600000 in
theorem x9004:rn Tryz.prog (num 9004):=by
 intro w g T bs es c b o m cc rest hB Q_ hbg hlen XW;simp only[maxLen]at XW;have h0:kW (gk w g (.cells ((cG bs (es.take 0)).map Value.bool++rest).toArray T (0,0))) g T ((cG bs (es.take 0)).map Value.bool++rest):=hB.ky T _;have hj0:cG bs (es.take 0)=bs:=by cases bs<;>simp[cG]
 have hw0:gk w g (.cells ((cG bs (es.take 0)).map Value.bool++rest).toArray T (0,0))=w:=by rw[hj0];exact OD hB
 refine enter (N:=28) Tryz.func205 rfl Tryz.ntmps205 rfl ?_;refine ir ?_;refine dQ ?_;refine eQ wn (cX (hZ ec) ?_);refine iJ ?_;refine ir ?_;refine dQ ?_;refine eQ wn (cX (hZ ec) ?_);refine iJ ?_;refine ir ?_;refine ir ?_;refine dQ ?_;refine eQ wn (cX (fP (et (v:=.slice (some ⟨b,o,none⟩) es.length cc) rfl)) ?_);refine eQ wn (cX (DT Tryz.underlying157 (et (v:=.slice (some ⟨b,o,none⟩) es.length cc) rfl)) ?_);refine eQ wn (cX (fP ec) ?_);refine iJ ?_;refine tn ?_;refine F8 (λμ f w'=>∃(i:Nat),f 0=.slice (some ⟨g,0,none⟩) bs.length c/\f 1=.slice (some ⟨b,o,none⟩) es.length cc/\f 5=.bool (lb bs (es.take i))/\f 8=.int .i64 (es.length:Int)/\f 9=.int .i64 (i:Int)/\i<=es.length/\w'=gk w g (.cells ((cG bs (es.take i)).map Value.bool++rest).toArray T (0,0))/\μ=es.length - i) (es.length - 0) ?_ ?_
 ·exact⟨0,rfl,rfl,by show Value.bool false=_;cases bs<;>rfl,rfl,rfl,qH _,hw0.symm,rfl⟩
 rintro μ f1 w1 ⟨i,s0,s1,s5,s8,s9,hi,rfl,rfl⟩
 refine ir ?_;refine dQ ?_;by_cases ig:(i:Int) < (es.length:Int)
 rotate_left
 ·refine eQ wn (cX (IP (r:=false) (et (v:=.int .i64 (i:Int)) s9) (et (v:=.int .i64 (es.length:Int)) s8) (Wh ig)) ?_);refine iJ ?_;refine ir ?_;refine uB (et (v:=.bool false) rfl) ?_;refine F7 ?_;refine Eq.mpr (if_pos rfl) ?_;have hie:i=es.length:=by omega
  subst hie;rw[aU]at s5 ⊢;refine ir ?_;refine dQ ?_;refine eQ wn (cX (fP (et (v:=.bool (lb bs es)) s5)) ?_);refine eQ wn (cX (hZ (et (v:=.bool (lb bs es)) rfl)) ?_);refine iJ ?_;refine DS ?_;exact⟨_,DE (v:=.bool (lb bs es)) Tryz.results205 rfl,rfl,rfl⟩
 have JO:i < es.length:=by omega
 obtain⟨e,he⟩:∃e,es[i]?=some e:=⟨es[i],by simp[JO]⟩
 obtain⟨x,hx⟩:∃x,bs[i]?=some x:=⟨bs[i]'(by omega),by simp[show i < bs.length by omega]⟩
 obtain⟨j1,j2,j3⟩:=An bs es i x e hx he;have Ux:=iI bs (es.take i);generalize aiE:cG bs (es.take i)=cur at *;have hB1:=hB.ky T (cur.map Value.bool++rest);have km:(gk w g (.cells (cur.map Value.bool++rest).toArray T (0,0))).cell? ⟨b,o+i * 1,none⟩=some (.bool e):=by
  rw[World.cell?_of_block (w:=w) ((TD.gk w g (cur.map Value.bool++rest).toArray T).block b hbg),nG];exact Q_ i _ (by simp[he])
 have nO:(gk w g (.cells (cur.map Value.bool++rest).toArray T (0,0))).cell? ⟨g,0+i * 1,none⟩=some (.bool x):=by
  rw[hB1.cell,nG,bm,cl (by simp;omega)];simp[j1]
 refine eQ wn (cX (IP (r:=true) (et (v:=.int .i64 (i:Int)) s9) (et (v:=.int .i64 (es.length:Int)) s8) (Wi ig)) ?_);refine iJ ?_;refine ir ?_;refine xz (et (v:=.bool true) rfl) ?_;refine uC ?_;refine ir ?_;refine tn ?_;refine ir ?_;refine dQ ?_;refine eQ wn (cX (fP (et (v:=.int .i64 (i:Int)) s9)) ?_);refine eQ wn (cX (hZ (et (v:=.int .i64 (i:Int)) rfl)) ?_);refine iJ ?_;refine ir ?_;refine dQ ?_;refine eQ wn (cX (fP (et (v:=.slice (some ⟨b,o,none⟩) es.length cc) s1)) ?_);refine eQ wn (cX (fP (et (v:=.int .i64 (i:Int)) rfl)) ?_);refine eQ wn (cX (qC (i:=i) Tryz.underlying157 Tryz.sizeOf4 (et (v:=.slice (some ⟨b,o,none⟩) es.length cc) rfl) (et (v:=.int .i64 (i:Int)) rfl) rfl JO) ?_);refine eQ wn (cX (F_ (v:=.bool e) Tryz.isAgg4 (et (v:=.pointer (some ⟨b,o+i * 1,none⟩)) rfl) km) ?_);refine eQ wn (cX (fP (et (v:=.bool e) rfl)) ?_);cases e with
 |false=>
  refine wZ (wx rfl) ?_;refine wZ (wx rfl) ?_;refine wZ (wx rfl) ?_;refine wZ (wx rfl) ?_;refine wZ (wx rfl) ?_;refine eQ wn (cX (IQ (v:=.bool false) (et (v:=.bool false) rfl) ec) ?_);refine iJ ?_;refine uB (et (v:=.bool false) rfl) ?_;refine uC ?_;refine dQ ?_;refine eQ wn (cX (MW (et (v:=.int .i64 (i:Int)) s9) ec (by omega)) ?_);refine eQ wn (cX (fP (et (v:=.int .i64 ((i:Int)+1)) rfl)) ?_);refine iJ ?_;refine⟨es.length - (i+1),by omega,i+1,s0,s1,?_,s8,V2 (by omega),by omega,?_,rfl⟩
  ·exact (show f1 5=_ from s5).trans (by rw[j3];simp)
  ·rw[j2];have:cur.set i (x ||false)=cur:=by
    apply ed
    intro k;rw[iz];split
    ·rename_i hk;subst hk;rw[j1];simp;omega
    ·rfl
   rw[this]
 |true=>
  refine eQ (wy rfl) (cX (fP (et (v:=.slice (some ⟨g,0,none⟩) bs.length c) s0)) ?_);refine eQ (wy rfl) (cX (fP (et (v:=.int .i64 (i:Int)) rfl)) ?_);refine eQ (wy rfl) (cX (qC (i:=i) Tryz.underlying157 Tryz.sizeOf4 (et (v:=.slice (some ⟨g,0,none⟩) bs.length c) rfl) (et (v:=.int .i64 (i:Int)) rfl) rfl (by omega)) ?_);refine eQ (wy rfl) (cX (F_ (v:=.bool x) Tryz.isAgg4 (et (v:=.pointer (some ⟨g,0+i * 1,none⟩)) rfl) nO) ?_);refine eQ (wy rfl) (cX (Xb (b:=x) (et (v:=.bool x) rfl)) ?_);refine eQ wn (cX (IS (v:=.bool !x) (et (v:=.bool true) rfl) (et (v:=.bool !x) rfl)) ?_);refine iJ ?_;cases x with
  |true=>
   refine uB (et (v:=.bool false) rfl) ?_;refine uC ?_;refine dQ ?_;refine eQ wn (cX (MW (et (v:=.int .i64 (i:Int)) s9) ec (by omega)) ?_);refine eQ wn (cX (fP (et (v:=.int .i64 ((i:Int)+1)) rfl)) ?_);refine iJ ?_;refine⟨es.length - (i+1),by omega,i+1,s0,s1,?_,s8,V2 (by omega),by omega,?_,rfl⟩
   ·exact (show f1 5=_ from s5).trans (by rw[j3];simp)
   ·rw[j2];have:cur.set i (true ||true)=cur:=by
     apply ed
     intro k;rw[iz];split
     ·rename_i hk;subst hk;rw[j1];simp;omega
     ·rfl
    rw[this]
  |false=>
   refine xz (et (v:=.bool true) rfl) ?_;refine ir ?_;refine dQ ?_;refine eQ wn (cX (fP (et (v:=.slice (some ⟨g,0,none⟩) bs.length c) s0)) ?_);refine eQ wn (cX (fP (et (v:=.int .i64 (i:Int)) rfl)) ?_);refine eQ wn (cX (qC (i:=i) Tryz.underlying157 Tryz.sizeOf4 (et (v:=.slice (some ⟨g,0,none⟩) bs.length c) rfl) (et (v:=.int .i64 (i:Int)) rfl) rfl (by omega)) ?_);refine eQ wn (FA (V5 (v:=.bool true) Tryz.sizeOf4 (et (v:=.pointer (some ⟨g,0+i * 1,none⟩)) rfl) ec rfl hB1 (by simp;omega)) ?_);refine iJ ?_;refine dQ ?_;refine eQ wn (cX (hZ ec) ?_);refine iJ ?_;refine dQ ?_;refine eQ wn (cX (MW (et (v:=.int .i64 (i:Int)) s9) ec (by omega)) ?_);refine eQ wn (cX (fP (et (v:=.int .i64 ((i:Int)+1)) rfl)) ?_);refine iJ ?_;refine⟨es.length - (i+1),by omega,i+1,s0,s1,?_,s8,V2 (by omega),by omega,?_,rfl⟩
   ·rw[j3];show Value.bool true=_;simp
   ·rw[j2,DL]
    congr 2
    rw[bm,nG,List.set_append_left _ _ (by simp;omega)];simp[List.map_set]
def T0(f:Nat):Option KF:=if f=333 then some abV else none
theorem Xq(a t:ByteArray)(x y:D):mI Tryz.prog (num 333) [.val true [.d (.str a),.d x,.d y],.box [.d (.str t)]] [.val false [.d (.bool (decide (a=t)))]] [.box [.d (.str t)]]:=by
 have h1:db T0 333 [.val true [.d (.str a),.d x,.d y],.box [.d (.str t)]]=some ([.val false [.d (.bool (decide (a=t)))]],[.box [.d (.str t)]]):=by
  rw[rZ (f:=333) rfl rfl];simp -implicitDefEqProofs only [QG,go_sem,bD,aw,aY,aZ,aD]
 obtain⟨n,hn⟩:=(s_ T0 333 _ _).1 h1;have hT:∀f kf,T0 f=some kf->Pe Tryz.prog num f kf:=λf kf h=>by
  unfold T0 at h
  split at h
  ·rename_i hf;cases h;rw[hf];exact .of acv rfl
  ·cases h
 exact sP (by kernel_rfl) (λ_=>x9004) hT n _ _ _ _ hn
theorem Ie{t a:ByteArray}{ds:List D}{es:List (List D)}{i r:Int}(h:Oo t ((.str a::ds)::es) i=some r):(a=t/\r=i)\/(a≠t/\Oo t es (i+1)=some r):=by
 simp only[Oo]at h
 split at h
 ·rename_i he;cases h;exact .inl ⟨he,rfl⟩
 ·rename_i he;exact .inr ⟨he,h⟩
theorem V4{P:Program}{ρ:Operand->Value}{dst:Option Tmp}{ty:TypeId}{pos:String}{aft:Array Edge}{gd:Option (Nat×Bool)}{w:World}{F:FuncId}{x:Operand}{K8:Array Operand}{ts:Array TypeId}{vs cap:Array Value}(hC:∀(args:Array Value) (w:World),(callFunc F args).run P w=.ok (.enter F args) w)(hF:ρ x=.func (.func F) #[] cap)(ha:K8.map ρ=vs) :
  (execOp ρ ⟨dst,.call {callee:=.value x,args:=K8,argTypes:=ts },ty,pos,aft,gd⟩).run P w=.ok (.enter F (vs++cap)) w:=by
 subst ha;simp[execOp,resolve,Deferred.ofValue,hF,invoke,hC]
theorem YH{P:Program}{ρ:Operand->Value}{dst:Option Tmp}{ty:TypeId}{pos:String}{aft:Array Edge}{gd:Option (Nat×Bool)}{w:World}{F:FuncId}{x:Operand}{v:Value}(hx:ρ x=v) :
  (execOp ρ ⟨dst,.makeFunc (.func F) #[] #[x],ty,pos,aft,gd⟩).run P w=.ok (.value (.func (.func F) #[] #[v])) w:=by
 subst hx;simp[execOp,Instr.makeFunc]
set_option maxHeartbeats 1600000 in
theorem Yw(t:ByteArray)(es:List (List D))(fl:Bool)(r:Int)(hr:Oo t es 0=some r)(w:World)(h:Nat->Nat)(A0:Option Addr)(n c:Nat)(G:Fp)(uJ:Rp w (.list 3 fl es) (.slice A0 n c) G)(jV:dm h G)(g:Nat)(T:TypeId)(hb:kW w g T [.string t])(yP:h g=0)(hts:t.size<=maxLen)
  (eN:∀y,w.heap.size<=y->h y=0) (hgl:g < w.heap.size) (hL:OU Tryz.prog w [g]) :
  Calls Tryz.prog 164 #[.slice A0 n c,.func (.func 165) #[] #[.pointer (some ⟨g,0,none⟩)]] w λe w'=>e=.returned (.int .i64 r)/\IntKind.i64.wrap r=r/\∃h',xH h [g] w w' h':=by
 simp only[Rp]at uJ;obtain⟨A1,n1,c1,sW,q2,q3,q4,q5,q6,q7,q8⟩:=uJ;simp only[Value.slice.injEq]at sW;obtain⟨rfl,rfl,rfl⟩:=sW;have XW:n<=maxLen:=aA q3 q4;simp only[maxLen]at XW;refine enter (N:=19) Tryz.func164 rfl Tryz.ntmps164 rfl ?_;refine ir ?_;refine dQ ?_;refine eQ wn (cX (hZ ec) ?_);refine iJ ?_;refine ir ?_;refine ir ?_;refine dQ ?_;refine eQ wn (cX (fP (et (v:=.slice A0 n c) rfl)) ?_);refine eQ wn (cX (DT Tryz.underlying29 (et (v:=.slice A0 n c) rfl)) ?_);refine eQ wn (cX (fP ec) ?_);refine iJ ?_;refine tn ?_;refine F8 (λμ f w'=>∃(i:Nat) (h':Nat->Nat) (T':TypeId),f 0=.slice A0 n c/\f 1=.func (.func 165) #[] #[.pointer (some ⟨g,0,none⟩)]/\f 7=.int .i64 (n:Int)/\f 8=.int .i64 (i:Int)/\i<=n/\Oo t (es.drop i) i=some r/\xH h [g] w w' h'/\kW w' g T' [.string t]/\h' g=0/\μ=n - i) (n - 0) ?_ ?_
 ·exact⟨0,h,T,rfl,rfl,rfl,rfl,qH _,by simpa using hr,xH.refl eN,hb,yP,rfl⟩
 rintro μ f1 w1 ⟨i,h1,T1,s0,s1,s7,s8,hi,hm,km,yo,hz1,rfl⟩
 refine ir ?_;refine dQ ?_;by_cases ig:(i:Int) < (n:Int)
 rotate_left
 ·refine eQ wn (cX (IP (r:=false) (et (v:=.int .i64 (i:Int)) s8) (et (v:=.int .i64 (n:Int)) s7) (Wh ig)) ?_);refine iJ ?_;refine ir ?_;refine uB (et (v:=.bool false) rfl) ?_;refine F7 ?_;refine Eq.mpr (if_pos rfl) ?_;refine ir ?_;refine dQ ?_;refine eQ wn (cX (hZ ec) ?_);refine iJ ?_;refine DS ?_;have hd:es.drop i=[]:=eB (by omega);rw[hd]at hm;simp only[Oo,aa]at hm;subst hm;exact⟨_,DE (v:=.int .i64 (-1)) Tryz.results164 rfl,rfl,rfl,h1,km⟩
 have JO:i < n:=by omega
 obtain⟨e,Ep⟩:∃e,es[i]?=some e:=⟨es[i]'(by omega),by simp[show i < es.length by omega]⟩
 have yp:=q7 e (cK Ep);have hde:es.drop i=e::es.drop (i+1):=gX es i e (by rw[cU];exact Ep);rw[hde]at hm;rcases q8 with ⟨q8,_⟩|⟨_,b,o,xs,G1,rfl,rfl,a2,a3⟩
 ·omega
 obtain⟨GE,NG,hGE⟩:=a2.at_ q7 Ep;have jU:∀be∈(b,o+n * 3)::G1,∀j,j < be.2->w1.cell? ⟨be.1,j,none⟩=w.cell? ⟨be.1,j,none⟩:=λbe nZ j hj=>
  km.cell be.1 j (by
   rcases cY be.1 w.heap.size with hl|hl
   ·exact hl
   ·have h0:=jV be nZ;rw[eN _ hl]at h0;omega) (bp hj (jV be nZ))
 have Ye:eb w1 e ((xs.drop (i * 3)).take 3) GE:=NG.cH _ (λbe nZ j hj=>jU be (by simp[hGE be nZ]) j hj);have Q8:dm h1 GE:=λbe nZ=>by
  have h0:=jV be (by simp[hGE be nZ]);have hl:be.1 < w.heap.size:=by
   rcases cY be.1 w.heap.size with hl|hl
   ·exact hl
   ·exact eb.lt _ NG be nZ
  exact aA h0 (km.mono _ hl)
 have gD:gy w1 b (o+i * 3) ((xs.drop (i * 3)).take 3):=by
  have hbk:i * 3+3<=n * 3:=by omega
  have h0:=a3.sub (i * 3) 3;intro j u hu;have hj:j < 3:=by
   have:=(aI.1 hu).1;simp at this;omega
  rw[jU (b,o+n * 3) (by simp) _ (by simp only;omega)];exact h0 j u hu
 obtain⟨d1,d2,d3,rfl⟩:∃d1 d2 d3,e=[d1,d2,d3]:=by
  match e,yp with
  |[d1,d2,d3],_=>exact⟨d1,d2,d3,rfl⟩
 obtain⟨a,rfl⟩:∃a,d1=.str a:=by
  cases d1 with
  |str a=>exact⟨a,rfl⟩
  |_=>simp[Oo]at hm
 refine eQ wn (cX (IP (r:=true) (et (v:=.int .i64 (i:Int)) s8) (et (v:=.int .i64 (n:Int)) s7) (Wi ig)) ?_);refine iJ ?_;refine ir ?_;refine xz (et (v:=.bool true) rfl) ?_;refine uC ?_;refine ir ?_;refine tn ?_;refine ir ?_;refine dQ ?_;refine eQ wn (cX (fP (et (v:=.int .i64 (i:Int)) s8)) ?_);refine eQ wn (cX (hZ (et (v:=.int .i64 (i:Int)) rfl)) ?_);refine iJ ?_;refine ir ?_;refine dQ ?_;obtain⟨xe,hxe⟩:∃xe,(xs.drop (i * 3)).take 3=xe:=⟨_,rfl⟩
 rw[hxe]at Ye gD;have UG:xe.length=3:=eb.length _ Ye;refine eQ wn (cX (fP (et (v:=.func (.func 165) #[] #[.pointer (some ⟨g,0,none⟩)]) s1)) ?_);refine eQ wn (cX (fP (et (v:=.slice (some ⟨b,o,none⟩) n c) s0)) ?_);refine eQ wn (cX (fP (et (v:=.int .i64 (i:Int)) rfl)) ?_);refine eQ wn (cX (qC (i:=i) Tryz.underlying29 Tryz.sizeOf69 (et (v:=.slice (some ⟨b,o,none⟩) n c) rfl) (et (v:=.int .i64 (i:Int)) rfl) rfl JO) ?_);refine eQ wn (cX (Gd (k:=3) Tryz.isAgg69 Tryz.sizeOf69 (et (v:=.pointer (some ⟨b,o+i * 3,none⟩)) rfl) UG gD) ?_);have hL1:OU Tryz.prog w1 [g]:=hL.step km.size (λy hy hn=>km.block y hy hn) (λy hy=>.inr hy);have agH:g < w1.heap.size:=bp hgl km.size;have pD:=Xq a t d2 d3 w1 h1 [.agg xe.toArray,.pointer (some ⟨g,0,none⟩)] [g] hL1 (by
   simp only[kF,AR,gz,Cy];have abD:=Ye;simp only[eb]at abD;obtain⟨v1,t1,E1,E1',rfl,rfl,p1,v2,t2,E2,E2',rfl,rfl,p2,v3,t3,E3,E3',rfl,rfl,p3,rfl,rfl⟩:=abD;refine⟨_,_,[],[g],rfl,rfl,⟨[v1,v2,v3],⟨v1,[v2,v3],[],[],rfl,rfl,⟨rfl,E1,p1,λbe hb=>Q8 be (by simp[hb])⟩,v2,[v3],[],[],rfl,rfl,⟨rfl,E2,p2,λbe hb=>Q8 be (by simp[hb])⟩,v3,[],[],[],rfl,rfl,⟨rfl,E3,p3,λbe hb=>Q8 be (by simp[hb])⟩,rfl,rfl⟩,(λ_=>rfl),λh=>by cases h⟩,_,_,[g],[],rfl,rfl,⟨g,T1,[.string t],[],rfl,yo,hz1,rfl,.string t,[],[],[],rfl,rfl,⟨rfl,[],?_,λbe hb=>by simp at hb⟩,rfl,rfl⟩,rfl,rfl⟩;simp only[Rp];exact⟨trivial,trivial,hts⟩) (by simp) (λy hy=>by simp at hy;rw[hy];exact agH) km.eN
 refine eQ wn (xd (V4 (jT Tryz.func165 rfl rfl) (et (v:=.func (.func 165) #[] #[.pointer (some ⟨g,0,none⟩)]) rfl) (a1 (et (v:=.agg xe.toArray) rfl))) pD ?_);intro en w2 hp;obtain⟨v,us,F1,F2,h2,rfl,Q7,qW,HB,_,_,oT⟩:=hp;simp only[kF,AR,gz,Cy]at qW;obtain⟨u,vs1,H1,H2,rfl,_,⟨us1,⟨v1,vs2,H3,H4,Yl,_,⟨_,GR,NI,_⟩,NK,_⟩,_,Ym⟩,rfl,_⟩:=qW;have Ym:=Ym trivial;rw[NK]at Yl;rw[Yl]at Ym;simp only[bw,and_true]at Ym;subst Ym;simp only[Rp]at NI;have hv:v=.bool (decide (a=t)):=by
  rcases Q7 with h|⟨h,_⟩
  ·simp only[bw,and_true]at h;rw[<- h];exact NI.1
  ·simp at h
 subst hv;simp only[fU,kF,AR,gz,Cy]at HB;obtain⟨u2,vs3,H5,H6,hu4,_,⟨g2,T2,vs4,F3,hg2,Af,hz2,_,v2,vs5,H7,H8,hv4,_,⟨_,GS,HC,_⟩,hv5,_⟩,_,_⟩:=HB;simp only[bw]at hu4;obtain⟨rfl,rfl⟩:=hu4;simp only[Value.pointer.injEq,aa,Addr.mk.injEq,and_true]at hg2;subst hg2;simp only[Rp]at HC;subst hv5;rw[HC.1]at hv4;subst hv4;have nO:xH h [g] w w2 h2:=km.trans oT;refine⟨_,rfl,?_⟩;refine iJ ?_;by_cases JL:a=t
 ·have JQ:=Ie hm;rcases JQ with ⟨_,rfl⟩|⟨h0,_⟩
  ·refine xz (et (v:=.bool true) (by simp[yi,JL])) ?_;refine ir ?_;refine dQ ?_;refine eQ wn (cX (fP (et (v:=.int .i64 (i:Int)) rfl)) ?_);refine eQ wn (cX (hZ (et (v:=.int .i64 (i:Int)) rfl)) ?_);refine iJ ?_;refine DS ?_;exact⟨_,DE (v:=.int .i64 (i:Int)) Tryz.results164 rfl,rfl,bJ (by omega),h2,nO⟩
  ·exact absurd JL h0
 ·have JQ:=Ie hm;rcases JQ with ⟨h0,_⟩|⟨_,JQ⟩
  ·exact absurd h0 JL
  ·refine uB (et (v:=.bool false) (by simp[yi,JL])) ?_;refine uC ?_;refine dQ ?_;refine eQ wn (cX (MW (et (v:=.int .i64 (i:Int)) s8) ec (by omega)) ?_);refine eQ wn (cX (fP (et (v:=.int .i64 ((i:Int)+1)) rfl)) ?_);refine iJ ?_;exact⟨n - (i+1),by omega,i+1,h2,T2,s0,s1,s7,V2 (by omega),by omega,by simpa using JQ,nO,Af,hz2,rfl⟩
theorem x9003(args rs outs:List A)(he:XT 9003 args=some (rs,outs)):mI Tryz.prog (num 9003) args rs outs:=by
 simp only[XT,aw,if_false,if_true]at he
 split at he
 ·rename_i fl es t;simp only[ad,ak]at he;obtain⟨r,hr,rfl,rfl⟩:=he;intro w h vs F hL hA jm ig eN;simp only[kF,AR,gz,Cy]at hA;obtain⟨u,dZ,F1,F2,rfl,rfl,⟨us,⟨v1,vs1,G1,G2,rfl,rfl,⟨rfl,G,uJ,jV⟩,rfl,rfl⟩,_,hu⟩,u2,vs2,H1,H2,rfl,rfl,⟨us2,⟨v2,vs3,G3,G4,rfl,rfl,⟨rfl,G5,HC,_⟩,rfl,rfl⟩,_,NK⟩,rfl,rfl⟩:=hA;have hu:=hu trivial;have NK:=NK trivial;simp only[bw,and_true]at hu NK;subst hu NK;have Yf:=uJ;simp only[Rp]at uJ HC;obtain⟨A0,n,c,rfl,_⟩:=uJ;obtain⟨rfl,rfl,hts⟩:=HC;refine enter (N:=8) Tryz.func140 rfl Tryz.ntmps140 rfl ?_;refine ir ?_;refine dQ ?_;have lI:∀{ty:TypeId} {pos:String} {aft:Array Edge} {gd:Option (Nat×Bool)},(execOp (fr (λi=>#[Value.slice A0 n c,Value.string t].getD i undef) 8).eval ⟨some 3,.box 9 (.tmp 1),ty,pos,aft,gd⟩).run Tryz.prog w=.ok (.value (.pointer (some ⟨w.heap.size,0,none⟩))) (w.alloc (.cells [Value.string t].toArray 9)):=by
   intro ty pos aft gd;have h0:(fr (λi=>#[Value.slice A0 n c,Value.string t].getD i undef) 8).eval (.tmp 1)=.string t:=et rfl;have h1:(execOp (fr (λi=>#[Value.slice A0 n c,Value.string t].getD i undef) 8).eval ⟨some 3,.box 9 (.tmp 1),ty,pos,aft,gd⟩).run Tryz.prog w=.ok (.value (.pointer (some ⟨w.heap.size,0,none⟩))) (w.alloc (.cells ((fr (λi=>#[Value.slice A0 n c,Value.string t].getD i undef) 8).eval (.tmp 1)).cells 9)):=by
    simp[execOp,Instr.box,newVar,newRow,newObj,Sem.run]
   rw[h0]at h1;exact h1
  refine eQ wn (Dz lI ?_);intro w1 Yg NB hB;refine eQ wn (cX (hZ ec) ?_);refine iJ ?_;refine ir ?_;refine dQ ?_;refine eQ wn (cX (fP (et (v:=.slice A0 n c) rfl)) ?_);refine eQ wn (cX (YH (et (v:=.pointer (some ⟨w.heap.size,0,none⟩)) rfl)) ?_);have km:xH h [] w w1 h:=zF NB.os NB.tape NB.output NB.size (λg hg=>NB.block g hg) eN;have NI:Rp w1 (.list 3 fl es) (.slice A0 n c) G:=Yf.cH _ (λbe hb j hj=>World.cell?_of_block (w:=w) (NB.block _ (Rp.lt _ Yf be hb)));have hL1:OU Tryz.prog w1 [w.heap.size]:=hL.step NB.size (λg hg _=>NB.block g hg) (λg hg=>by simp at hg;omega);have pD:=Yw t es fl r hr w1 h A0 n c G NI jV w.heap.size 9 hB (eN _ (aj _)) hts km.eN (by omega) hL1;refine eQ wn (xd (xD (jT Tryz.func164 rfl rfl) rfl (a2 (et (v:=.slice A0 n c) rfl) (et (v:=.func (.func 165) #[] #[.pointer (some ⟨w.heap.size,0,none⟩)]) rfl))) pD ?_)
  rintro e w2 ⟨rfl,hrw,h2,oT⟩
  refine⟨_,rfl,?_⟩;refine eQ wn (cX (hZ (et (v:=.int .i64 r) rfl)) ?_);refine iJ ?_;refine DS ?_;refine⟨_,DE (v:=.int .i64 r) Tryz.results140 rfl,?_⟩;have hcc:xH h [] w w2 h2:=⟨oT.os.trans km.os,oT.tape.trans km.tape,oT.output.trans km.output,aA km.size oT.size,
   λg hg _=>(oT.block g (by omega) (by simp;omega)).trans (km.block g hg (by simp)),λg j hg hj=>(oT.cell g j (by omega) hj).trans (km.cell g j hg hj),
   λg hg=>oT.mono g (by omega),λg hg _=>oT.hold g (by omega) (by simp;omega),oT.eN,λg hg=>oT.eX g (km.eX g hg)⟩
  exact xn (by simp only[Rp];exact⟨trivial,trivial,hrw⟩) hcc rfl
 ·cases he
end
end Go.Proofs.YtcdjbelccndadaaGreatDoor
