/- Part of the proof: a machine over plain data, its proof, the functions of the program run on symbols, what they answer. Condition: none. -/
import Derived.ProofKit
import Derived.OpenShut
import Derived.Below
import Derived.Test.YtcdjbelccndadaaGreatDoorZz02
set_option linter.unusedVariables false
set_option linter.unusedSimpArgs false
open Bool renaming and_eq_true->ab
open List renaming cons_append->ai,mem_cons->ay,getElem?_eq_some_iff->aI,mem_append->aL,map_cons->aN,all_eq_true->aS,take_append_drop->a_,all_cons->bW,getElem?_append_left->cl,getElem?_append_right->cr,drop_of_length_le->ez,getElem?_eq_getElem->iN,drop_drop->pj
open List.cons renaming injEq->bq
open Nat renaming le_refl->aj,succ_mul->iE,zero_mul->oQ
namespace Go.Proofs.YtcdjbelccndadaaGreatDoor
section
open Go.RowKit Go.ChangeShapes Go.WideShapes
inductive KTD where
 |int
 |bool
 |str
 |list (e s:Nat)
 |agg (ts:List Nat)
def kty:Nat->KTD
 |0=>.int
 |1=>.bool
 |2=>.str
 |3=>.list 2 0
 |4=>.agg [2,3,0,1]
 |5=>.list 4 1
 |6=>.agg [2,2,7]
 |7=>.list 6 2
 |8=>.agg [0,2,2,9]
 |9=>.list 8 3
 |10=>.agg [0,0,9]
 |11=>.list 10 4
 |12=>.agg [7,11]
 |13=>.agg [0,0]
 |14=>.list 13 6
 |15=>.agg [0,14,3,2,2]
 |16=>.agg [2,2]
 |17=>.list 16 8
 |18=>.agg [2,17]
 |19=>.list 18 9
 |20=>.agg [1,0,19]
 |21=>.agg [0,0,2,20,22]
 |22=>.list 21 11
 |23=>.agg [0,2,15,3,3,2,1,1,1,1,0,0,22,22,24]
 |24=>.list 23 12
 |25=>.agg [7,0,0]
 |26=>.list 25 13
 |27=>.agg [1,0,0,2,7]
 |28=>.agg [24,7,7,0,26,27]
 |_=>.int
def qi:Nat->List Ty
 |0=>[.int]
 |1=>[.bool]
 |2=>[.str]
 |3=>[.list 0]
 |4=>[.str,.list 0,.int,.bool]
 |5=>[.list 1]
 |6=>[.str,.str,.list 2]
 |7=>[.list 2]
 |8=>[.int,.str,.str,.list 3]
 |9=>[.list 3]
 |10=>[.int,.int,.list 3]
 |11=>[.list 4]
 |12=>[.list 2,.list 4]
 |13=>[.int,.int]
 |14=>[.list 6]
 |15=>[.int,.list 6,.list 0,.str,.str]
 |16=>[.str,.str]
 |17=>[.list 8]
 |18=>[.str,.list 8]
 |19=>[.list 9]
 |20=>[.bool,.int,.list 9]
 |21=>[.int,.int,.str,.bool,.int,.list 9,.list 11]
 |22=>[.list 11]
 |23=>[.int,.str,.int,.list 6,.list 0,.str,.str,.list 0,.list 0,.str,.bool,.bool,.bool,.bool,.int,.int,.list 11,.list 11,.list 12]
 |24=>[.list 12]
 |25=>[.list 2,.int,.int]
 |26=>[.list 13]
 |27=>[.bool,.int,.int,.str,.list 2]
 |28=>[.list 12,.list 2,.list 2,.int,.list 13,.bool,.int,.int,.str,.list 2]
 |_=>[.int]
def Hv:List Nat->List Ty
 |[]=>[]
 |t::ts=>qi t++Hv ts
def tA(P:Program)(R:TypeId->Nat->Prop):List Field->List Nat->Nat->Nat->Prop
 |[],[],off,all=>off=all
 |f::fs,t::ts,off,all=>f.offset=off/\R f.type t/\tA P R fs ts (off+P.cellsOf f.type) all
 |_,_,_,_=>False
def Pa(P:Program)(R:TypeId->Nat->Prop):Prop:=
 ∀t τ,R t τ->match kty τ with
  | .int=>P.underlying t=some (.int .i64)/\qi τ=[.int]
  | .bool=>P.underlying t=some .bool/\qi τ=[.bool]
  | .str=>P.underlying t=some .string/\qi τ=[.str]
  | .list e s=>∃te,P.underlying t=some (.slice te)/\R te e/\qi τ=[.list s]/\lay s=qi e/\0 < P.cellsOf te/\kw s=P.cellsOf te
  | .agg ts=>∃fs,P.underlying t=some (.struct fs)/\qi τ=Hv ts/\tA P R fs.toList ts 0 (P.cellsOf t)
theorem eO.append{B:Nat}:∀{ts us:List Ty} {ds es:List D},eO B ts ds->eO B us es->eO B (ts++us) (ds++es)
 |[],_,[],_,_,h=>h
 |t::ts,us,d::ds,es,h,h'=>by simp only[eO]at h;simp only[ai,eO];exact⟨h.1,eO.append h.2 h'⟩
 |[],_,_::_,_,h,_|_::_,_,[],_,h,_=>by simp only[eO]at h
theorem eO.flat{B:Nat}:∀{ts:List Ty} {ds:List D},eO B ts ds->ts.all Ty.plain=true->∀x∈ds,D.plain x=true
 |[],[],_,_,x,hx=>by simp at hx
 |t::ts,d::ds,h,hp,x,hx=>by
  simp only[eO]at h;simp only[bW,ab]at hp;rcases ay.1 hx with rfl|hx
  ·cases t with
   |int=>obtain⟨n,rfl,_⟩:=h.1.kv;rfl
   |bool=>obtain⟨n,rfl⟩:=h.1.nK;rfl
   |str=>obtain⟨n,rfl,_⟩:=h.1.jw;rfl
   |list s=>simp[Ty.plain]at hp
  ·exact eO.flat h.2 hp.2 x hx
 |[],_::_,h,_,_,_|_::_,[],h,_,_,_=>by simp only[eO]at h
theorem CJ{w:World}{s k b:Nat}:∀(len o:Nat),(∀i,i < len->∃e cs F,eO maxLen (lay s) e/\ee w e cs F/\gz w b (o+i * k) cs/\cs.length=k)->
  ∃es xs G,es.length=len/\eh maxLen s es/\eD w es xs G/\gz w b o xs
 |0,o,_=>⟨[],[],[],rfl,by simp[eh],by simp[eD],λj u h=>by simp at h⟩
 |len+1,o,h=>by
  obtain⟨e,cs,F,h1,h2,h3,h4⟩:=h 0 (by omega);obtain⟨es,xs,G,a1,a2,a3,a4⟩:=CJ len (o+k) (λi hi=>by
   obtain⟨e,cs,F,h1,h2,h3,h4⟩:=h (i+1) (by omega);refine⟨e,cs,F,h1,h2,?_,h4⟩;rw[show o+k+i * k=o+(i+1) * k from by rw[iE];omega];exact h3)
  refine⟨e::es,cs++xs,F++G,by simp[a1],⟨h1,a2⟩,?_,?_⟩
  ·simp only[eD];exact⟨cs,xs,F,G,rfl,rfl,h2,a3⟩
  ·intro j u hu;by_cases hj:j < cs.length
   ·rw[cl hj]at hu;have:=h3 j u hu
    simpa using this
   ·rw[cr (by omega)]at hu;have:=a4 (j - cs.length) u hu;rw[show o+k+(j - cs.length)=o+j by omega]at this;exact this
section
variable {H:Type} {enc:TypeId×Value->H} {P:Program} {w:World} {spare:Nat->Bool} {held:Bool} {R:TypeId->Nat->Prop}
theorem CK{n all:Nat}{cs:List Value}(ih:∀t τ cs x,DataW.trod enc P w 0 spare held n t cs=some x->R t τ->∃ds F,eO maxLen (qi τ) ds/\ee w ds cs F)(hl:cs.length=all) :
  ∀(fs:List Field) (ts:List Nat) (off:Nat),tA P R fs ts off all->(∀f∈fs,∃x,DataW.trod enc P w 0 spare held n f.type ((cs.drop f.offset).take (P.cellsOf f.type))=some x)->
   ∃ds F,eO maxLen (Hv ts) ds/\ee w ds (cs.drop off) F
 |[],[],off,h,_=>by
  simp only[tA]at h;refine⟨[],[],by simp[Hv,eO],?_⟩;rw[ez (by omega)];simp[ee]
 |[],_::_,off,h,_=>by simp only[tA]at h
 |_::_,[],off,h,_=>by simp only[tA]at h
 |f::fs,t::ts,off,h,hx=>by
  simp only[tA]at h;obtain⟨rfl,hR,hf⟩:=h;obtain⟨x,hx0⟩:=hx f (by simp);obtain⟨ds,F,ok,hr⟩:=ih _ t _ x hx0 hR;obtain⟨ga,G,ok',yW⟩:=CK ih hl fs ts _ hf (λg hg=>hx g (by simp[hg]));refine⟨ds++ga,F++G,eO.append ok ok',?_⟩;have e:cs.drop f.offset=(cs.drop f.offset).take (P.cellsOf f.type)++cs.drop (f.offset+P.cellsOf f.type):=by
   rw[<- pj,a_]
  rw[e];exact ee.append ds hr yW
theorem Kw{a:Addr}{v:Value}(h:w.cell? a=some v):a=⟨a.block,a.off,none⟩:=by
 obtain⟨b,o,sp⟩:=a;cases sp with
 |none=>rfl
 |some k=>
  unfold World.cell? at h
  split at h
  ·simp at h
  ·cases h
theorem IC(hR:Pa P R):∀(fuel:Nat) (t:TypeId) (τ:Nat) (cs:List Value) (x:DataW H×List MemPlace),DataW.trod enc P w 0 spare held fuel t cs=some x->R t τ->∃ds F,eO maxLen (qi τ) ds/\ee w ds cs F
 |0,t,τ,cs,x,h,_=>by simp[DataW.trod]at h
 |fuel+1,t,τ,cs,x,h,hr=>by
  have Bt:∀{d:D} {v:Value},Rp w d v []->ee w [d] [v] []:=λh=>by simp only[ee];exact⟨_,[],[],[],rfl,rfl,h,rfl,rfl⟩
  have hT:=hR t τ hr;cases jO:kty τ with
  |int=>
   rw[jO]at hT;obtain⟨n,rfl,_,hw⟩:=DataW.trod_int hT.1 h;have hb:=bounds_i64 hw;refine⟨[.int .i64 n],[],?_,Bt ?_⟩
   ·rw[hT.2];simp only[eO,Ok,and_true,true_and];omega
   ·simp only[Rp,true_and];exact bN (by omega)
  |bool=>
   rw[jO]at hT;obtain⟨b,rfl,_⟩:=DataW.trod_bool hT.1 h;refine⟨[.bool b],[],?_,Bt ?_⟩
   ·rw[hT.2];simp only[eO,Ok,and_true]
   ·simp only[Rp,true_and]
  |str=>
   rw[jO]at hT;obtain⟨s,rfl,_,hl⟩:=DataW.trod_string hT.1 h;have rq:s.size<=maxLen:=by simpa [maxLen] using hl
   refine⟨[.str s],[],?_,Bt ?_⟩
   ·rw[hT.2];simp only[eO,Ok,and_true];exact rq
   ·simp only[Rp,true_and];exact rq
  |agg ts=>
   rw[jO]at hT;obtain⟨fs,hU,sR,hF⟩:=hT;obtain⟨xs,n,hn,_,hl,Up,hf⟩:=DataW.trod_struct hU h;have XW:n=fuel:=by omega
   subst XW;obtain⟨ds,F,ok,qX⟩:=CK (λt τ cs x h hr=>IC hR n t τ cs x h hr) hl fs.toList ts 0 hF (λf hfm=>by
    obtain⟨i,hi,e⟩:=List.getElem_of_mem hfm;have oX:i < fs.size:=by simpa using hi
    have h1:=hf i f (by rw[<- e];simp[oX]);rw[iN (by omega)]at h1;exact⟨_,h1⟩)
   exact⟨ds,F,by rw[sR];exact ok,by simpa using qX⟩
  |list e s=>
   rw[jO]at hT;obtain⟨te,hU,hRe,sR,agy,NA,hkw⟩:=hT;have out:∀{v:Value} {es:List (List D)} {F:Fp},es.length<=maxLen->eh maxLen s es->Rp w (.list (kw s) (flT s) es) v F->∃ds F,eO maxLen (qi τ) ds/\ee w ds [v] F:=by
    intro v es F h1 h2 h3;refine⟨[.list (kw s) (flT s) es],F,?_,?_⟩
    ·rw[sR];simp only[eO,Ok,and_true,true_and];exact⟨h1,h2⟩
    ·simp only[ee];exact⟨v,[],F,[],rfl,by simp,h3,rfl,rfl⟩
   rcases DataW.trod_slice hU h with ⟨rfl,_⟩|⟨a,len,cap,elems,rest,n,hn,rfl,_,_,hlc,Ua,yw,QM,_⟩
   ·refine out (es:=[]) (F:=[]) (by simp) (by simp[eh]) ?_;simp only[Rp];exact⟨none,0,0,rfl,rfl,aj _,by simp[maxLen],λ_=>ja,by omega,by simp,.inl (by simp)⟩
   ·have XW:n=fuel:=by omega
    subst XW;have abg:cap<=maxLen:=by simpa [maxLen] using Ua
    have key:∀i,i < len->∃ds cs F,eO maxLen (lay s) ds/\ee w ds cs F/\cs.length=P.cellsOf te/\∀j,j < P.cellsOf te->w.cell? ((a.add (i * P.cellsOf te)).add j)=cs[j]?:=by
     intro i hi;have h1:=QM i hi;rw[iN (by omega)]at h1;obtain⟨iA,hc,ht⟩:=Option.bind_eq_some_iff.1 h1;obtain⟨_,rk,JT⟩:=World.cells?_some hc;obtain⟨ds,F,ok,NC⟩:=IC hR n te e iA _ ht hRe;exact⟨ds,iA,F,by rw[agy];exact ok,NC,rk,JT⟩
    by_cases h0:len=0
    ·subst h0;refine out (es:=[]) (F:=[]) (by simp) (by simp[eh]) ?_;simp only[Rp];exact⟨_,_,_,rfl,rfl,hlc,abg,λ_=>ja,by omega,by simp,.inl (by simp)⟩
    ·obtain⟨_,cs0,F0,_,_,JX,agq⟩:=key 0 (by omega);have hc0:=agq 0 NA;simp only[oQ]at hc0;have e00:(a.add 0).add 0=a:=by simp[Addr.add]
     rw[e00,iN (by omega)]at hc0;have ha:=Kw hc0;obtain⟨es,xs,G,x1,x2,x3,x4⟩:=CJ (w:=w) (s:=s) (k:=P.cellsOf te) (b:=a.block) len a.off (λi hi=>by
      obtain⟨ds,cs,F,ok,NC,rk,JT⟩:=key i hi;refine⟨ds,cs,F,ok,NC,λj u hu=>?_,rk⟩;have hj:j < P.cellsOf te:=by rw[<- rk];exact (aI.1 hu).1
      have h2:=JT j hj;rw[ha,nH,nH,hu]at h2;exact h2)
     refine out (es:=es) (F:=(a.block,a.off+len * kw s)::G) (by omega) x2 ?_;simp only[Rp];refine⟨some a,len,cap,rfl,x1.symm,hlc,abg,λhf e he=>(x2.mem e he).flat hf,by omega,λe he=>(x2.mem e he).length,.inr ⟨by omega,a.block,a.off,xs,G,congrArg some ha,rfl,x3,x4⟩⟩
end
def Ag(P:Program)(rel:List (TypeId×Nat)):List Field->List Nat->Nat->Nat->Bool
 |[],[],off,all=>off ==all
 |f::fs,t::ts,off,all=>f.offset ==off && rel.contains (f.type,t) && Ag P rel fs ts (off+P.cellsOf f.type) all
 |_,_,_,_=>false
def Ty.same:Ty->Ty->Bool
 | .int,.int=>true
 | .bool,.bool=>true
 | .str,.str=>true
 | .list a,.list b=>a ==b
 |_,_=>false
def qD:List Ty->List Ty->Bool
 |[],[]=>true
 |a::as,b::bs=>a.same b && qD as bs
 |_,_=>false
theorem Ty.Vq:∀{a b:Ty},a.same b=true->a=b
 | .int,.int,_=>rfl
 | .bool,.bool,_=>rfl
 | .str,.str,_=>rfl
 | .list a,.list b,h=>by simp only[Ty.same,beq_iff_eq]at h;rw[h]
 | .int,.bool,h | .int,.str,h | .int,.list _,h | .bool,.int,h | .bool,.str,h | .bool,.list _,h | .str,.int,h | .str,.bool,h | .str,.list _,h | .list _,.int,h | .list _,.bool,h | .list _,.str,h=>by cases h
theorem lZ:∀{a b:List Ty},qD a b=true->a=b
 |[],[],_=>rfl
 |a::as,b::bs,h=>by
  simp only[qD,ab]at h;rw[Ty.Vq h.1,lZ h.2]
 |[],_::_,h|_::_,[],h=>by cases h
def R2(P:Program)(rel:List (TypeId×Nat)):Bool:=
 rel.all λx=>match P.underlying x.1,kty x.2 with
  |some (.int .i64),.int=>qD (qi x.2) [.int]
  |some .bool,.bool=>qD (qi x.2) [.bool]
  |some .string,.str=>qD (qi x.2) [.str]
  |some (.slice te),.list e s=>rel.contains (te,e) && qD (qi x.2) [.list s] && qD (lay s) (qi e) && decide (0 < P.cellsOf te) && decide (kw s=P.cellsOf te)
  |some (.struct fs),.agg ts=>qD (qi x.2) (Hv ts) && Ag P rel fs.toList ts 0 (P.cellsOf x.1)
  |_,_=>false
theorem Hu{P:Program}{rel:List (TypeId×Nat)}:∀(fs:List Field) (ts:List Nat) (off all:Nat),Ag P rel fs ts off all=true->tA P (λt τ=>(t,τ)∈rel) fs ts off all
 |[],[],off,all,h=>by simpa [Ag,tA] using h
 |[],_::_,_,_,h=>by simp[Ag]at h
 |_::_,[],_,_,h=>by simp[Ag]at h
 |f::fs,t::ts,off,all,h=>by
  simp only[Ag,ab,beq_iff_eq,List.contains_iff_mem]at h;simp only[tA];exact⟨h.1.1,h.1.2,Hu fs ts _ all h.2⟩
theorem FP{P:Program}{rel:List (TypeId×Nat)}(h:R2 P rel=true):Pa P (λt τ=>(t,τ)∈rel):=by
 intro t τ hm;have h1:=aS.1 h (t,τ) hm;dsimp only at h1;cases hu:P.underlying t with
 |none=>rw[hu]at h1;cases hy:kty τ<;>rw[hy]at h1<;>simp at h1
 |some d=>
  rw[hu]at h1;cases hy:kty τ with
  |int=>rw[hy]at h1;dsimp only;split at h1<;>simp_all;exact lZ h1
  |bool=>rw[hy]at h1;dsimp only;split at h1<;>simp_all;exact lZ h1
  |str=>rw[hy]at h1;dsimp only;split at h1<;>simp_all;exact lZ h1
  |list e s=>
   rw[hy]at h1;dsimp only
   split at h1<;>simp_all
   exact⟨lZ h1.1.1.1.2,lZ h1.1.1.2⟩
  |agg ts=>
   rw[hy]at h1;dsimp only
   split at h1<;>simp_all
   exact⟨lZ h1.1,Hu _ _ _ _ h1.2⟩
def W5(w:World)(a:A)(v:Value)(G:Fp):Prop:=∃ag ds vs,a=.val ag (ds.map .d)/\ee w ds vs G/\(ag=true->v=.agg vs.toArray)/\(ag=false->vs=[v])
def ru(w:World):List A->List Value->Fp->Prop
 |[],vs,G=>vs=[]/\G=[]
 |a::as,vs,G=>∃v eb G1 G2,vs=v::eb/\G=G1++G2/\W5 w a v G1/\ru w as eb G2
theorem M8{w:World}:ru w [] [] []:=⟨rfl,rfl⟩
theorem tK{w:World}{a:A}{v:Value}{as:List A}{vs:List Value}{G1 G2:Fp}(h:W5 w a v G1)(h':ru w as vs G2):ru w (a::as) (v::vs) (G1++G2):=⟨v,vs,G1,G2,rfl,rfl,h,h'⟩
theorem zF{w:World}{d:D}{v:Value}{G:Fp}(h:ee w [d] [v] G):W5 w (.val false [.d d]) v G:=⟨false,[d],[v],rfl,h,(λh=>by cases h),λ_=>rfl⟩
def Kd:Fp->Nat
 |[]=>0
 |be::G=>be.2+Kd G
theorem Mo:∀{G:Fp} {be:Nat×Nat},be∈G->be.2<=Kd G
 |b::G,be,h=>by
  rcases ay.1 h with rfl|h
  ·simp only[Kd];omega
  ·have:=Mo h;simp only[Kd];omega
def hOf(n m:Nat)(g:Nat):Nat:=if g < n then m else 0
theorem MN{w:World}{h:Nat->Nat}:∀{ds:List D} {vs:List Value} {G:Fp},ee w ds vs G->dm h G->gA h w (ds.map .d) vs []
 |[],vs,G,hr,_=>by simp only[ee]at hr;simp[gA,hr.1]
 |d::ds,vs,G,hr,hs=>by
  simp only[ee]at hr;obtain⟨v,eb,F1,F2,rfl,rfl,h1,h2⟩:=hr;simp only[aN,gA];exact⟨v,eb,[],[],rfl,rfl,⟨rfl,F1,h1,λbe hb=>hs be (by simp[hb])⟩,MN h2 (λbe hb=>hs be (by simp[hb]))⟩
theorem Pf{w:World}{h:Nat->Nat}:∀{as:List A} {vs:List Value} {G:Fp},ru w as vs G->dm h G->kG h w as vs []
 |[],vs,G,hr,_=>by simp only[ru]at hr;simp[kG,hr.1]
 |a::as,vs,G,hr,hs=>by
  simp only[ru]at hr;obtain⟨v,eb,F1,F2,rfl,rfl,⟨ag,ds,us,rfl,h1,h2,h3⟩,h4⟩:=hr;simp only[kG];exact⟨v,eb,[],[],rfl,rfl,⟨us,MN h1 (λbe hb=>hs be (by simp[hb])),h2,h3⟩,Pf h4 (λbe hb=>hs be (by simp[hb]))⟩
theorem GN{w:World}:∀{as:List A} {vs:List Value} {G:Fp},ru w as vs G->∀be∈G,be.1 < w.heap.size
 |[],vs,G,hr,be,hb=>by simp only[ru]at hr;rw[hr.2]at hb;simp at hb
 |a::as,vs,G,hr,be,hb=>by
  simp only[ru]at hr;obtain⟨v,eb,F1,F2,rfl,rfl,⟨ag,ds,us,rfl,h1,_⟩,h4⟩:=hr;rcases aL.1 hb with hb|hb
  ·exact ee.lt ds h1 be hb
  ·exact GN h4 be hb
theorem Rq{P:Program}{num:Nat->FuncId}{T:Nat->Option KF}(hm:P.follows .mixedOrders=true)(hj:num 9004≠1000000->ry P (num 9004))(hT:∀f kf,T f=some kf->O_ P num f kf){f:Nat}{kf:KF}(bY:okF P num f kf=true){args:List A}(lQ:run T (gK T) kf args=some ([.val false [.d (.bool true)]],[]))
  {w:World} {vs:List Value} {G:Fp} (hL:OO P w []) (ha:ru w args vs G):Calls P (num f) vs.toArray w λe w'=>e=.returned (.bool true)/\Below w.heap.size w w':=by
 obtain⟨n,hn⟩:=Zv T (n:=0) lQ;have h1:=C_ hm hj (λg a r o=>sM hm hj hT n g a r o) (λg ag ds q ga q'=>C5 hm hj hT n g ag ds q ga q') bY (hn n (aj _));refine (h1 w (hOf w.heap.size (Kd G)) vs [] hL (Pf ha (λbe hb=>?_)) List.nodup_nil (λg hg=>by simp at hg) (λg hg=>?_)).mono λe w' ⟨v,us,F1,F2,h',he,hv,hr,_,_,_,hc⟩=>?_
 ·have:=GN ha be hb;simp only[hOf,this,if_true];exact Mo hb
 ·simp only[hOf];rw[if_neg (by omega)]
 ·simp only[kG,AR,gA,CF]at hr;obtain⟨u,eb,_,_,rfl,_,⟨us',⟨v1,ZS,_,_,X8,_,⟨_,G',uK,_⟩,NG,_⟩,_,X9⟩,rfl,_⟩:=hr;have hu:us'=[u]:=X9 trivial;rw[NG]at X8;rw[X8]at hu;simp only[bq,and_true]at hu;subst hu;simp only[Rp]at uK;rcases hv with hv|⟨hv,_⟩
  ·simp only[bq,and_true]at hv;subst hv;exact⟨by rw[he,uK.1],⟨hc.os,hc.tape,hc.output,hc.size,λg hg=>hc.block g hg (by simp)⟩⟩
  ·simp at hv
end
end Go.Proofs.YtcdjbelccndadaaGreatDoor
