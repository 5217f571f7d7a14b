/- Part of the proof: a machine over plain data, its proof, the functions of the program run on symbols, what they answer. Condition: none. -/
import Derived.ProofKit
import Derived.OpenShut
import Derived.Below
import Derived.Test.YtcdjbelccndadaaGreatDoorZy02
set_option linter.unusedVariables false
set_option linter.unusedSimpArgs false
open Bool renaming and_eq_true->ab
open List renaming cons_append->ai,mem_cons->ay,getElem?_eq_some_iff->aI,mem_append->aM,map_cons->aQ,all_eq_true->aS,take_append_drop->bc,all_cons->bT,getElem?_append_left->cl,getElem?_append_right->cr,drop_of_length_le->eB,getElem?_eq_getElem->iO,drop_drop->pe
open List.cons renaming injEq->bw
open Nat renaming le_refl->aj,succ_mul->iG,zero_mul->oN
namespace Go.Proofs.YtcdjbelccndadaaGreatDoor
section
open Go.RowKit Go.ChangeShapes Go.WideShapes
inductive KTD where
 |int
 |bool
 |str
 |list (e s:Nat)
 |agg (ts:List Nat)
def kty:Nat->KTD
 |0=>.int
 |1=>.bool
 |2=>.str
 |3=>.list 2 0
 |4=>.agg [2,3,0,1]
 |5=>.list 4 1
 |6=>.agg [2,2,7]
 |7=>.list 6 2
 |8=>.agg [0,2,2,9]
 |9=>.list 8 3
 |10=>.agg [0,0,9]
 |11=>.list 10 4
 |12=>.agg [7,11]
 |13=>.agg [0,0]
 |14=>.list 13 6
 |15=>.agg [0,14,3,2,2]
 |16=>.agg [2,2]
 |17=>.list 16 8
 |18=>.agg [2,17]
 |19=>.list 18 9
 |20=>.agg [1,0,19]
 |21=>.agg [0,0,2,20,22]
 |22=>.list 21 11
 |23=>.agg [0,2,15,3,3,2,1,1,1,1,0,0,22,22,24]
 |24=>.list 23 12
 |25=>.agg [7,0,0]
 |26=>.list 25 13
 |27=>.agg [1,0,0,2,7]
 |28=>.agg [24,7,7,0,26,27]
 |_=>.int
def pB:Nat->List Ty
 |0=>[.int]
 |1=>[.bool]
 |2=>[.str]
 |3=>[.list 0]
 |4=>[.str,.list 0,.int,.bool]
 |5=>[.list 1]
 |6=>[.str,.str,.list 2]
 |7=>[.list 2]
 |8=>[.int,.str,.str,.list 3]
 |9=>[.list 3]
 |10=>[.int,.int,.list 3]
 |11=>[.list 4]
 |12=>[.list 2,.list 4]
 |13=>[.int,.int]
 |14=>[.list 6]
 |15=>[.int,.list 6,.list 0,.str,.str]
 |16=>[.str,.str]
 |17=>[.list 8]
 |18=>[.str,.list 8]
 |19=>[.list 9]
 |20=>[.bool,.int,.list 9]
 |21=>[.int,.int,.str,.bool,.int,.list 9,.list 11]
 |22=>[.list 11]
 |23=>[.int,.str,.int,.list 6,.list 0,.str,.str,.list 0,.list 0,.str,.bool,.bool,.bool,.bool,.int,.int,.list 11,.list 11,.list 12]
 |24=>[.list 12]
 |25=>[.list 2,.int,.int]
 |26=>[.list 13]
 |27=>[.bool,.int,.int,.str,.list 2]
 |28=>[.list 12,.list 2,.list 2,.int,.list 13,.bool,.int,.int,.str,.list 2]
 |_=>[.int]
def Hm:List Nat->List Ty
 |[]=>[]
 |t::ts=>pB t++Hm ts
def tD(P:Program)(R:TypeId->Nat->Prop):List Field->List Nat->Nat->Nat->Prop
 |[],[],off,all=>off=all
 |f::fs,t::ts,off,all=>f.offset=off/\R f.type t/\tD P R fs ts (off+P.cellsOf f.type) all
 |_,_,_,_=>False
def Pg(P:Program)(R:TypeId->Nat->Prop):Prop:=
 ∀t τ,R t τ->match kty τ with
  | .int=>P.underlying t=some (.int .i64)/\pB τ=[.int]
  | .bool=>P.underlying t=some .bool/\pB τ=[.bool]
  | .str=>P.underlying t=some .string/\pB τ=[.str]
  | .list e s=>∃te,P.underlying t=some (.slice te)/\R te e/\pB τ=[.list s]/\lay s=pB e/\0 < P.cellsOf te/\kw s=P.cellsOf te
  | .agg ts=>∃fs,P.underlying t=some (.struct fs)/\pB τ=Hm ts/\tD P R fs.toList ts 0 (P.cellsOf t)
theorem eE.append{B:Nat}:∀{ts us:List Ty} {ds es:List D},eE B ts ds->eE B us es->eE B (ts++us) (ds++es)
 |[],_,[],_,_,h=>h
 |t::ts,us,d::ds,es,h,h'=>by simp only[eE]at h;simp only[ai,eE];exact⟨h.1,eE.append h.2 h'⟩
 |[],_,_::_,_,h,_|_::_,_,[],_,h,_=>by simp only[eE]at h
theorem eE.flat{B:Nat}:∀{ts:List Ty} {ds:List D},eE B ts ds->ts.all Ty.plain=true->∀x∈ds,D.plain x=true
 |[],[],_,_,x,hx=>by simp at hx
 |t::ts,d::ds,h,hp,x,hx=>by
  simp only[eE]at h;simp only[bT,ab]at hp;rcases ay.1 hx with rfl|hx
  ·cases t with
   |int=>obtain⟨n,rfl,_⟩:=h.1.jW;rfl
   |bool=>obtain⟨n,rfl⟩:=h.1.mj;rfl
   |str=>obtain⟨n,rfl,_⟩:=h.1.iV;rfl
   |list s=>simp[Ty.plain]at hp
  ·exact eE.flat h.2 hp.2 x hx
 |[],_::_,h,_,_,_|_::_,[],h,_,_,_=>by simp only[eE]at h
theorem CC{w:World}{s k b:Nat}:∀(len o:Nat),(∀i,i < len->∃e cs F,eE maxLen (lay s) e/\eb w e cs F/\gy w b (o+i * k) cs/\cs.length=k)->
  ∃es xs G,es.length=len/\dL maxLen s es/\eH w es xs G/\gy w b o xs
 |0,o,_=>⟨[],[],[],rfl,by simp[dL],by simp[eH],λj u h=>by simp at h⟩
 |len+1,o,h=>by
  obtain⟨e,cs,F,h1,h2,h3,h4⟩:=h 0 (by omega);obtain⟨es,xs,G,a1,a2,a3,a4⟩:=CC len (o+k) (λi hi=>by
   obtain⟨e,cs,F,h1,h2,h3,h4⟩:=h (i+1) (by omega);refine⟨e,cs,F,h1,h2,?_,h4⟩;rw[show o+k+i * k=o+(i+1) * k from by rw[iG];omega];exact h3)
  refine⟨e::es,cs++xs,F++G,by simp[a1],⟨h1,a2⟩,?_,?_⟩
  ·simp only[eH];exact⟨cs,xs,F,G,rfl,rfl,h2,a3⟩
  ·intro j u hu;by_cases hj:j < cs.length
   ·rw[cl hj]at hu;have:=h3 j u hu
    simpa using this
   ·rw[cr (by omega)]at hu;have:=a4 (j - cs.length) u hu;rw[show o+k+(j - cs.length)=o+j by omega]at this;exact this
section
variable {H:Type} {enc:TypeId×Value->H} {P:Program} {w:World} {spare:Nat->Bool} {held:Bool} {R:TypeId->Nat->Prop}
theorem CD{n all:Nat}{cs:List Value}(ih:∀t τ cs x,DataW.trod enc P w 0 spare held n t cs=some x->R t τ->∃ds F,eE maxLen (pB τ) ds/\eb w ds cs F)(hl:cs.length=all) :
  ∀(fs:List Field) (ts:List Nat) (off:Nat),tD P R fs ts off all->(∀f∈fs,∃x,DataW.trod enc P w 0 spare held n f.type ((cs.drop f.offset).take (P.cellsOf f.type))=some x)->
   ∃ds F,eE maxLen (Hm ts) ds/\eb w ds (cs.drop off) F
 |[],[],off,h,_=>by
  simp only[tD]at h;refine⟨[],[],by simp[Hm,eE],?_⟩;rw[eB (by omega)];simp[eb]
 |[],_::_,off,h,_=>by simp only[tD]at h
 |_::_,[],off,h,_=>by simp only[tD]at h
 |f::fs,t::ts,off,h,hx=>by
  simp only[tD]at h;obtain⟨rfl,hR,hf⟩:=h;obtain⟨x,hx0⟩:=hx f (by simp);obtain⟨ds,F,ok,hr⟩:=ih _ t _ x hx0 hR;obtain⟨ga,G,ok',yQ⟩:=CD ih hl fs ts _ hf (λg hg=>hx g (by simp[hg]));refine⟨ds++ga,F++G,eE.append ok ok',?_⟩;have e:cs.drop f.offset=(cs.drop f.offset).take (P.cellsOf f.type)++cs.drop (f.offset+P.cellsOf f.type):=by
   rw[<- pe,bc]
  rw[e];exact eb.append ds hr yQ
theorem Ko{a:Addr}{v:Value}(h:w.cell? a=some v):a=⟨a.block,a.off,none⟩:=by
 obtain⟨b,o,sp⟩:=a;cases sp with
 |none=>rfl
 |some k=>
  unfold World.cell? at h
  split at h
  ·simp at h
  ·cases h
theorem DG(hR:Pg P R):∀(fuel:Nat) (t:TypeId) (τ:Nat) (cs:List Value) (x:DataW H×List MemPlace),DataW.trod enc P w 0 spare held fuel t cs=some x->R t τ->∃ds F,eE maxLen (pB τ) ds/\eb w ds cs F
 |0,t,τ,cs,x,h,_=>by simp[DataW.trod]at h
 |fuel+1,t,τ,cs,x,h,hr=>by
  have Bl:∀{d:D} {v:Value},Rp w d v []->eb w [d] [v] []:=λh=>by simp only[eb];exact⟨_,[],[],[],rfl,rfl,h,rfl,rfl⟩
  have hT:=hR t τ hr;cases jO:kty τ with
  |int=>
   rw[jO]at hT;obtain⟨n,rfl,_,hw⟩:=DataW.trod_int hT.1 h;have hb:=bounds_i64 hw;refine⟨[.int .i64 n],[],?_,Bl ?_⟩
   ·rw[hT.2];simp only[eE,Ok,and_true,true_and];omega
   ·simp only[Rp,true_and];exact bJ (by omega)
  |bool=>
   rw[jO]at hT;obtain⟨b,rfl,_⟩:=DataW.trod_bool hT.1 h;refine⟨[.bool b],[],?_,Bl ?_⟩
   ·rw[hT.2];simp only[eE,Ok,and_true]
   ·simp only[Rp,true_and]
  |str=>
   rw[jO]at hT;obtain⟨s,rfl,_,hl⟩:=DataW.trod_string hT.1 h;have pE:s.size<=maxLen:=by simpa [maxLen] using hl
   refine⟨[.str s],[],?_,Bl ?_⟩
   ·rw[hT.2];simp only[eE,Ok,and_true];exact pE
   ·simp only[Rp,true_and];exact pE
  |agg ts=>
   rw[jO]at hT;obtain⟨fs,hU,sV,hF⟩:=hT;obtain⟨xs,n,hn,_,hl,UG,hf⟩:=DataW.trod_struct hU h;have X_:n=fuel:=by omega
   subst X_;obtain⟨ds,F,ok,qW⟩:=CD (λt τ cs x h hr=>DG hR n t τ cs x h hr) hl fs.toList ts 0 hF (λf hfm=>by
    obtain⟨i,hi,e⟩:=List.getElem_of_mem hfm;have oU:i < fs.size:=by simpa using hi
    have h1:=hf i f (by rw[<- e];simp[oU]);rw[iO (by omega)]at h1;exact⟨_,h1⟩)
   exact⟨ds,F,by rw[sV];exact ok,by simpa using qW⟩
  |list e s=>
   rw[jO]at hT;obtain⟨te,hU,hRe,sV,agK,NF,hkw⟩:=hT;have out:∀{v:Value} {es:List (List D)} {F:Fp},es.length<=maxLen->dL maxLen s es->Rp w (.list (kw s) (flT s) es) v F->∃ds F,eE maxLen (pB τ) ds/\eb w ds [v] F:=by
    intro v es F h1 h2 h3;refine⟨[.list (kw s) (flT s) es],F,?_,?_⟩
    ·rw[sV];simp only[eE,Ok,and_true,true_and];exact⟨h1,h2⟩
    ·simp only[eb];exact⟨v,[],F,[],rfl,by simp,h3,rfl,rfl⟩
   rcases DataW.trod_slice hU h with ⟨rfl,_⟩|⟨a,len,cap,elems,rest,n,hn,rfl,_,_,hlc,Ut,yp,QY,_⟩
   ·refine out (es:=[]) (F:=[]) (by simp) (by simp[dL]) ?_;simp only[Rp];exact⟨none,0,0,rfl,rfl,aj _,by simp[maxLen],λ_=>jc,by omega,by simp,.inl (by simp)⟩
   ·have X_:n=fuel:=by omega
    subst X_;have abo:cap<=maxLen:=by simpa [maxLen] using Ut
    have key:∀i,i < len->∃ds cs F,eE maxLen (lay s) ds/\eb w ds cs F/\cs.length=P.cellsOf te/\∀j,j < P.cellsOf te->w.cell? ((a.add (i * P.cellsOf te)).add j)=cs[j]?:=by
     intro i hi;have h1:=QY i hi;rw[iO (by omega)]at h1;obtain⟨iC,hc,ht⟩:=Option.bind_eq_some_iff.1 h1;obtain⟨_,ri,JL⟩:=World.cells?_some hc;obtain⟨ds,F,ok,NH⟩:=DG hR n te e iC _ ht hRe;exact⟨ds,iC,F,by rw[agK];exact ok,NH,ri,JL⟩
    by_cases h0:len=0
    ·subst h0;refine out (es:=[]) (F:=[]) (by simp) (by simp[dL]) ?_;simp only[Rp];exact⟨_,_,_,rfl,rfl,hlc,abo,λ_=>jc,by omega,by simp,.inl (by simp)⟩
    ·obtain⟨_,cs0,F0,_,_,JP,agC⟩:=key 0 (by omega);have hc0:=agC 0 NF;simp only[oN]at hc0;have e00:(a.add 0).add 0=a:=by simp[Addr.add]
     rw[e00,iO (by omega)]at hc0;have ha:=Ko hc0;obtain⟨es,xs,G,x1,x2,x3,x4⟩:=CC (w:=w) (s:=s) (k:=P.cellsOf te) (b:=a.block) len a.off (λi hi=>by
      obtain⟨ds,cs,F,ok,NH,ri,JL⟩:=key i hi;refine⟨ds,cs,F,ok,NH,λj u hu=>?_,ri⟩;have hj:j < P.cellsOf te:=by rw[<- ri];exact (aI.1 hu).1
      have h2:=JL j hj;rw[ha,nI,nI,hu]at h2;exact h2)
     refine out (es:=es) (F:=(a.block,a.off+len * kw s)::G) (by omega) x2 ?_;simp only[Rp];refine⟨some a,len,cap,rfl,x1.symm,hlc,abo,λhf e he=>(x2.mem e he).flat hf,by omega,λe he=>(x2.mem e he).length,.inr ⟨by omega,a.block,a.off,xs,G,congrArg some ha,rfl,x3,x4⟩⟩
end
def z7(P:Program)(rel:List (TypeId×Nat)):List Field->List Nat->Nat->Nat->Bool
 |[],[],off,all=>off ==all
 |f::fs,t::ts,off,all=>f.offset ==off && rel.contains (f.type,t) && z7 P rel fs ts (off+P.cellsOf f.type) all
 |_,_,_,_=>false
def Ty.same:Ty->Ty->Bool
 | .int,.int=>true
 | .bool,.bool=>true
 | .str,.str=>true
 | .list a,.list b=>a ==b
 |_,_=>false
def qA:List Ty->List Ty->Bool
 |[],[]=>true
 |a::as,b::bs=>a.same b && qA as bs
 |_,_=>false
theorem Ty.VE:∀{a b:Ty},a.same b=true->a=b
 | .int,.int,_=>rfl
 | .bool,.bool,_=>rfl
 | .str,.str,_=>rfl
 | .list a,.list b,h=>by simp only[Ty.same,beq_iff_eq]at h;rw[h]
 | .int,.bool,h | .int,.str,h | .int,.list _,h | .bool,.int,h | .bool,.str,h | .bool,.list _,h | .str,.int,h | .str,.bool,h | .str,.list _,h | .list _,.int,h | .list _,.bool,h | .list _,.str,h=>by cases h
theorem lW:∀{a b:List Ty},qA a b=true->a=b
 |[],[],_=>rfl
 |a::as,b::bs,h=>by
  simp only[qA,ab]at h;rw[Ty.VE h.1,lW h.2]
 |[],_::_,h|_::_,[],h=>by cases h
def Sc(P:Program)(rel:List (TypeId×Nat)):Bool:=
 rel.all λx=>match P.underlying x.1,kty x.2 with
  |some (.int .i64),.int=>qA (pB x.2) [.int]
  |some .bool,.bool=>qA (pB x.2) [.bool]
  |some .string,.str=>qA (pB x.2) [.str]
  |some (.slice te),.list e s=>rel.contains (te,e) && qA (pB x.2) [.list s] && qA (lay s) (pB e) && decide (0 < P.cellsOf te) && decide (kw s=P.cellsOf te)
  |some (.struct fs),.agg ts=>qA (pB x.2) (Hm ts) && z7 P rel fs.toList ts 0 (P.cellsOf x.1)
  |_,_=>false
theorem Hl{P:Program}{rel:List (TypeId×Nat)}:∀(fs:List Field) (ts:List Nat) (off all:Nat),z7 P rel fs ts off all=true->tD P (λt τ=>(t,τ)∈rel) fs ts off all
 |[],[],off,all,h=>by simpa [z7,tD] using h
 |[],_::_,_,_,h=>by simp[z7]at h
 |_::_,[],_,_,h=>by simp[z7]at h
 |f::fs,t::ts,off,all,h=>by
  simp only[z7,ab,beq_iff_eq,List.contains_iff_mem]at h;simp only[tD];exact⟨h.1.1,h.1.2,Hl fs ts _ all h.2⟩
theorem zh{P:Program}{rel:List (TypeId×Nat)}(h:Sc P rel=true):Pg P (λt τ=>(t,τ)∈rel):=by
 intro t τ hm;have h1:=aS.1 h (t,τ) hm;dsimp only at h1;cases hu:P.underlying t with
 |none=>rw[hu]at h1;cases hy:kty τ<;>rw[hy]at h1<;>simp at h1
 |some d=>
  rw[hu]at h1;cases hy:kty τ with
  |int=>rw[hy]at h1;dsimp only;split at h1<;>simp_all;exact lW h1
  |bool=>rw[hy]at h1;dsimp only;split at h1<;>simp_all;exact lW h1
  |str=>rw[hy]at h1;dsimp only;split at h1<;>simp_all;exact lW h1
  |list e s=>
   rw[hy]at h1;dsimp only
   split at h1<;>simp_all
   exact⟨lW h1.1.1.1.2,lW h1.1.1.2⟩
  |agg ts=>
   rw[hy]at h1;dsimp only
   split at h1<;>simp_all
   exact⟨lW h1.1,Hl _ _ _ _ h1.2⟩
def Xh(w:World)(a:A)(v:Value)(G:Fp):Prop:=∃ag ds vs,a=.val ag (ds.map .d)/\eb w ds vs G/\(ag=true->v=.agg vs.toArray)/\(ag=false->vs=[v])
def rk(w:World):List A->List Value->Fp->Prop
 |[],vs,G=>vs=[]/\G=[]
 |a::as,vs,G=>∃v dZ G1 G2,vs=v::dZ/\G=G1++G2/\Xh w a v G1/\rk w as dZ G2
theorem M9{w:World}:rk w [] [] []:=⟨rfl,rfl⟩
theorem pW{w:World}{a:A}{v:Value}{as:List A}{vs:List Value}{G1 G2:Fp}(h:Xh w a v G1)(h':rk w as vs G2):rk w (a::as) (v::vs) (G1++G2):=⟨v,vs,G1,G2,rfl,rfl,h,h'⟩
theorem uP{w:World}{d:D}{v:Value}{G:Fp}(h:eb w [d] [v] G):Xh w (.val false [.d d]) v G:=⟨false,[d],[v],rfl,h,(λh=>by cases h),λ_=>rfl⟩
def J6:Fp->Nat
 |[]=>0
 |be::G=>be.2+J6 G
theorem Mp:∀{G:Fp} {be:Nat×Nat},be∈G->be.2<=J6 G
 |b::G,be,h=>by
  rcases ay.1 h with rfl|h
  ·simp only[J6];omega
  ·have:=Mp h;simp only[J6];omega
def hOf(n m:Nat)(g:Nat):Nat:=if g < n then m else 0
theorem MO{w:World}{h:Nat->Nat}:∀{ds:List D} {vs:List Value} {G:Fp},eb w ds vs G->dm h G->gz h w (ds.map .d) vs []
 |[],vs,G,hr,_=>by simp only[eb]at hr;simp[gz,hr.1]
 |d::ds,vs,G,hr,hs=>by
  simp only[eb]at hr;obtain⟨v,dZ,F1,F2,rfl,rfl,h1,h2⟩:=hr;simp only[aQ,gz];exact⟨v,dZ,[],[],rfl,rfl,⟨rfl,F1,h1,λbe hb=>hs be (by simp[hb])⟩,MO h2 (λbe hb=>hs be (by simp[hb]))⟩
theorem Pm{w:World}{h:Nat->Nat}:∀{as:List A} {vs:List Value} {G:Fp},rk w as vs G->dm h G->kF h w as vs []
 |[],vs,G,hr,_=>by simp only[rk]at hr;simp[kF,hr.1]
 |a::as,vs,G,hr,hs=>by
  simp only[rk]at hr;obtain⟨v,dZ,F1,F2,rfl,rfl,⟨ag,ds,us,rfl,h1,h2,h3⟩,h4⟩:=hr;simp only[kF];exact⟨v,dZ,[],[],rfl,rfl,⟨us,MO h1 (λbe hb=>hs be (by simp[hb])),h2,h3⟩,Pm h4 (λbe hb=>hs be (by simp[hb]))⟩
theorem GH{w:World}:∀{as:List A} {vs:List Value} {G:Fp},rk w as vs G->∀be∈G,be.1 < w.heap.size
 |[],vs,G,hr,be,hb=>by simp only[rk]at hr;rw[hr.2]at hb;simp at hb
 |a::as,vs,G,hr,be,hb=>by
  simp only[rk]at hr;obtain⟨v,dZ,F1,F2,rfl,rfl,⟨ag,ds,us,rfl,h1,_⟩,h4⟩:=hr;rcases aM.1 hb with hb|hb
  ·exact eb.lt ds h1 be hb
  ·exact GH h4 be hb
theorem RF{P:Program}{num:Nat->FuncId}{T:Nat->Option KF}(hm:P.follows .mixedOrders=true)(hj:num 9004≠1000000->rn P (num 9004))(hT:∀f kf,T f=some kf->Pe P num f kf){f:Nat}{kf:KF}(bZ:okF P num f kf=true){args:List A}(lQ:run T (gF T) kf args=some ([.val false [.d (.bool true)]],[]))
  {w:World} {vs:List Value} {G:Fp} (hL:OU P w []) (ha:rk w args vs G):Calls P (num f) vs.toArray w λe w'=>e=.returned (.bool true)/\Below w.heap.size w w':=by
 obtain⟨n,hn⟩:=ZM T (n:=0) lQ;have h1:=C1 hm hj (λg a r o=>sP hm hj hT n g a r o) (λg ag ds q ga q'=>CX hm hj hT n g ag ds q ga q') bZ (hn n (aj _));refine (h1 w (hOf w.heap.size (J6 G)) vs [] hL (Pm ha (λbe hb=>?_)) List.nodup_nil (λg hg=>by simp at hg) (λg hg=>?_)).mono λe w' ⟨v,us,F1,F2,h',he,hv,hr,_,_,_,hc⟩=>?_
 ·have:=GH ha be hb;simp only[hOf,this,if_true];exact Mp hb
 ·simp only[hOf];rw[if_neg (by omega)]
 ·simp only[kF,AR,gz,Cy]at hr;obtain⟨u,dZ,_,_,rfl,_,⟨us',⟨v1,vs1,_,_,Yl,_,⟨_,G',uJ,_⟩,NK,_⟩,_,Ym⟩,rfl,_⟩:=hr;have hu:us'=[u]:=Ym trivial;rw[NK]at Yl;rw[Yl]at hu;simp only[bw,and_true]at hu;subst hu;simp only[Rp]at uJ;rcases hv with hv|⟨hv,_⟩
  ·simp only[bw,and_true]at hv;subst hv;exact⟨by rw[he,uJ.1],⟨hc.os,hc.tape,hc.output,hc.size,λg hg=>hc.block g hg (by simp)⟩⟩
  ·simp at hv
end
end Go.Proofs.YtcdjbelccndadaaGreatDoor
