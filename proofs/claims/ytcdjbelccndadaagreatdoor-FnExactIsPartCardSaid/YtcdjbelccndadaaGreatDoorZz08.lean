/- Part of the proof: a machine over plain data, its proof, the functions of the program run on symbols, what they answer. Condition: none. -/
import Derived.ProofKit
import Derived.OpenShut
import Derived.Below
import Derived.Test.YtcdjbelccndadaaGreatDoorZz02
set_option linter.unusedVariables false
set_option linter.unusedSimpArgs false
namespace Go.Proofs.YtcdjbelccndadaaGreatDoor
section
open Go.RowKit Go.ChangeShapes Go.WideShapes
inductive KTD where
 |int
 |bool
 |str
 |list (e s:Nat)
 |agg (ts:List Nat)
def kty:Nat→KTD
 |0=>.int
 |1=>.bool
 |2=>.str
 |3=>.list 2 0
 |4=>.agg [2,3,0,1]
 |5=>.list 4 1
 |6=>.agg [2,2,7]
 |7=>.list 6 2
 |8=>.agg [0,2,2,9]
 |9=>.list 8 3
 |10=>.agg [0,0,9]
 |11=>.list 10 4
 |12=>.agg [7,11]
 |13=>.agg [0,0]
 |14=>.list 13 6
 |15=>.agg [0,14,3,2,2]
 |16=>.agg [2,2]
 |17=>.list 16 8
 |18=>.agg [2,17]
 |19=>.list 18 9
 |20=>.agg [1,0,19]
 |21=>.agg [0,0,2,20,22]
 |22=>.list 21 11
 |23=>.agg [0,2,15,3,3,2,1,1,1,1,0,0,22,22,24]
 |24=>.list 23 12
 |25=>.agg [7,0,0]
 |26=>.list 25 13
 |27=>.agg [1,0,0,2,7]
 |28=>.agg [24,7,7,0,26,27]
 |_=>.int
def flay:Nat→List Ty
 |0=>[.int]
 |1=>[.bool]
 |2=>[.str]
 |3=>[.list 0]
 |4=>[.str,.list 0,.int,.bool]
 |5=>[.list 1]
 |6=>[.str,.str,.list 2]
 |7=>[.list 2]
 |8=>[.int,.str,.str,.list 3]
 |9=>[.list 3]
 |10=>[.int,.int,.list 3]
 |11=>[.list 4]
 |12=>[.list 2,.list 4]
 |13=>[.int,.int]
 |14=>[.list 6]
 |15=>[.int,.list 6,.list 0,.str,.str]
 |16=>[.str,.str]
 |17=>[.list 8]
 |18=>[.str,.list 8]
 |19=>[.list 9]
 |20=>[.bool,.int,.list 9]
 |21=>[.int,.int,.str,.bool,.int,.list 9,.list 11]
 |22=>[.list 11]
 |23=>[.int,.str,.int,.list 6,.list 0,.str,.str,.list 0,.list 0,.str,.bool,.bool,.bool,.bool,.int,.int,.list 11,.list 11,.list 12]
 |24=>[.list 12]
 |25=>[.list 2,.int,.int]
 |26=>[.list 13]
 |27=>[.bool,.int,.int,.str,.list 2]
 |28=>[.list 12,.list 2,.list 2,.int,.list 13,.bool,.int,.int,.str,.list 2]
 |_=>[.int]
def flays:List Nat→List Ty
 |[]=>[]
 |t::ts=>flay t++flays ts
def FitsK(P:Program)(R:TypeId→Nat→Prop):List Field→List Nat→Nat→Nat→Prop
 |[],[],off,all=>off=all
 |f::fs,t::ts,off,all=>f.offset=off∧R f.type t∧FitsK P R fs ts (off+P.cellsOf f.type) all
 |_,_,_,_=>False
def TyRelK(P:Program)(R:TypeId→Nat→Prop):Prop:=
 ∀t τ,R t τ→match kty τ with
  | .int=>P.underlying t=some (.int .i64)∧flay τ=[.int]
  | .bool=>P.underlying t=some .bool∧flay τ=[.bool]
  | .str=>P.underlying t=some .string∧flay τ=[.str]
  | .list e s=>∃te,P.underlying t=some (.slice te)∧R te e∧flay τ=[.list s]∧lay s=flay e∧0 < P.cellsOf te∧kw s=P.cellsOf te
  | .agg ts=>∃fs,P.underlying t=some (.struct fs)∧flay τ=flays ts∧FitsK P R fs.toList ts 0 (P.cellsOf t)
theorem OkC.append{B:Nat}:∀{ts us:List Ty} {ds es:List D},OkC B ts ds→OkC B us es→OkC B (ts++us) (ds++es)
 |[],_,[],_,_,h=>h
 |t::ts,us,d::ds,es,h,h'=>by simp only[OkC]at h;simp only[List.cons_append,OkC];exact⟨h.1,OkC.append h.2 h'⟩
 |[],_,_::_,_,h,_|_::_,_,[],_,h,_=>by simp only[OkC]at h
theorem OkC.flat{B:Nat}:∀{ts:List Ty} {ds:List D},OkC B ts ds→ts.all Ty.plain=true→∀x∈ds,D.plain x=true
 |[],[],_,_,x,hx=>by simp at hx
 |t::ts,d::ds,h,hp,x,hx=>by
  simp only[OkC]at h;simp only[List.all_cons,Bool.and_eq_true]at hp;rcases List.mem_cons.1 hx with rfl|hx
  ·cases t with
   |int=>obtain⟨n,rfl,_⟩:=h.1.int_inv;rfl
   |bool=>obtain⟨n,rfl⟩:=h.1.bool_inv;rfl
   |str=>obtain⟨n,rfl,_⟩:=h.1.str_inv;rfl
   |list s=>simp[Ty.plain]at hp
  ·exact OkC.flat h.2 hp.2 x hx
 |[],_::_,h,_,_,_|_::_,[],h,_,_,_=>by simp only[OkC]at h
theorem build_esK{w:World}{s k b:Nat}:∀(len o:Nat),(∀i,i < len→∃e cs F,OkC maxLen (lay s) e∧RpC w e cs F∧Lies w b (o+i * k) cs∧cs.length=k)→
  ∃es xs G,es.length=len∧OkE maxLen s es∧RpE w es xs G∧Lies w b o xs
 |0,o,_=>⟨[],[],[],rfl,by simp[OkE],by simp[RpE],fun j u h=>by simp at h⟩
 |len+1,o,h=>by
  obtain⟨e,cs,F,h1,h2,h3,h4⟩:=h 0 (by omega);obtain⟨es,xs,G,a1,a2,a3,a4⟩:=build_esK len (o+k) (fun i hi=>by
   obtain⟨e,cs,F,h1,h2,h3,h4⟩:=h (i+1) (by omega);refine⟨e,cs,F,h1,h2,?_,h4⟩;rw[show o+k+i * k=o+(i+1) * k from by rw[Nat.succ_mul];omega];exact h3)
  refine⟨e::es,cs++xs,F++G,by simp[a1],⟨h1,a2⟩,?_,?_⟩
  ·simp only[RpE];exact⟨cs,xs,F,G,rfl,rfl,h2,a3⟩
  ·intro j u hu;by_cases hj:j < cs.length
   ·rw[List.getElem?_append_left hj]at hu;have:=h3 j u hu
    simpa using this
   ·rw[List.getElem?_append_right (by omega)]at hu;have:=a4 (j - cs.length) u hu;rw[show o+k+(j - cs.length)=o+j by omega]at this;exact this
section
variable {H:Type} {enc:TypeId×Value→H} {P:Program} {w:World} {spare:Nat→Bool} {held:Bool} {R:TypeId→Nat→Prop}
theorem build_fsK{n all:Nat}{cs:List Value}(ih:∀t τ cs x,DataW.trod enc P w 0 spare held n t cs=some x→R t τ→∃ds F,OkC maxLen (flay τ) ds∧RpC w ds cs F)(hl:cs.length=all) :
  ∀(fs:List Field) (ts:List Nat) (off:Nat),FitsK P R fs ts off all→(∀f∈fs,∃x,DataW.trod enc P w 0 spare held n f.type ((cs.drop f.offset).take (P.cellsOf f.type))=some x)→
   ∃ds F,OkC maxLen (flays ts) ds∧RpC w ds (cs.drop off) F
 |[],[],off,h,_=>by
  simp only[FitsK]at h;refine⟨[],[],by simp[flays,OkC],?_⟩;rw[List.drop_of_length_le (by omega)];simp[RpC]
 |[],_::_,off,h,_=>by simp only[FitsK]at h
 |_::_,[],off,h,_=>by simp only[FitsK]at h
 |f::fs,t::ts,off,h,hx=>by
  simp only[FitsK]at h;obtain⟨rfl,hR,hf⟩:=h;obtain⟨x,hx0⟩:=hx f (by simp);obtain⟨ds,F,ok,hr⟩:=ih _ t _ x hx0 hR;obtain⟨ds',G,ok',hr'⟩:=build_fsK ih hl fs ts _ hf (fun g hg=>hx g (by simp[hg]));refine⟨ds++ds',F++G,OkC.append ok ok',?_⟩;have e:cs.drop f.offset=(cs.drop f.offset).take (P.cellsOf f.type)++cs.drop (f.offset+P.cellsOf f.type):=by
   rw[← List.drop_drop,List.take_append_drop]
  rw[e];exact RpC.append ds hr hr'
theorem spot_noneK{a:Addr}{v:Value}(h:w.cell? a=some v):a=⟨a.block,a.off,none⟩:=by
 obtain⟨b,o,sp⟩:=a;cases sp with
 |none=>rfl
 |some k=>
  unfold World.cell? at h
  split at h
  ·simp at h
  ·cases h
theorem readK(hR:TyRelK P R):∀(fuel:Nat) (t:TypeId) (τ:Nat) (cs:List Value) (x:DataW H×List MemPlace),DataW.trod enc P w 0 spare held fuel t cs=some x→R t τ→∃ds F,OkC maxLen (flay τ) ds∧RpC w ds cs F
 |0,t,τ,cs,x,h,_=>by simp[DataW.trod]at h
 |fuel+1,t,τ,cs,x,h,hr=>by
  have one1:∀{d:D} {v:Value},Rp w d v []→RpC w [d] [v] []:=fun h=>by simp only[RpC];exact⟨_,[],[],[],rfl,rfl,h,rfl,rfl⟩
  have hT:=hR t τ hr;cases hty:kty τ with
  |int=>
   rw[hty]at hT;obtain⟨n,rfl,_,hw⟩:=DataW.trod_int hT.1 h;have hb:=bounds_i64 hw;refine⟨[.int .i64 n],[],?_,one1 ?_⟩
   ·rw[hT.2];simp only[OkC,Ok,and_true,true_and];omega
   ·simp only[Rp,true_and];exact i64_wrap (by omega)
  |bool=>
   rw[hty]at hT;obtain⟨b,rfl,_⟩:=DataW.trod_bool hT.1 h;refine⟨[.bool b],[],?_,one1 ?_⟩
   ·rw[hT.2];simp only[OkC,Ok,and_true]
   ·simp only[Rp,true_and]
  |str=>
   rw[hty]at hT;obtain⟨s,rfl,_,hl⟩:=DataW.trod_string hT.1 h;have hl':s.size≤maxLen:=by simpa [maxLen] using hl
   refine⟨[.str s],[],?_,one1 ?_⟩
   ·rw[hT.2];simp only[OkC,Ok,and_true];exact hl'
   ·simp only[Rp,true_and];exact hl'
  |agg ts=>
   rw[hty]at hT;obtain⟨fs,hU,hfl,hF⟩:=hT;obtain⟨xs,n,hn,_,hl,hxl,hf⟩:=DataW.trod_struct hU h;have hn':n=fuel:=by omega
   subst hn';obtain⟨ds,F,ok,hrs⟩:=build_fsK (fun t τ cs x h hr=>readK hR n t τ cs x h hr) hl fs.toList ts 0 hF (fun f hfm=>by
    obtain⟨i,hi,e⟩:=List.getElem_of_mem hfm;have hi':i < fs.size:=by simpa using hi
    have h1:=hf i f (by rw[← e];simp[hi']);rw[List.getElem?_eq_getElem (by omega)]at h1;exact⟨_,h1⟩)
   exact⟨ds,F,by rw[hfl];exact ok,by simpa using hrs⟩
  |list e s=>
   rw[hty]at hT;obtain⟨te,hU,hRe,hfl,hlay,hpos,hkw⟩:=hT;have out:∀{v:Value} {es:List (List D)} {F:Fp},es.length≤maxLen→OkE maxLen s es→Rp w (.list (kw s) (flT s) es) v F→∃ds F,OkC maxLen (flay τ) ds∧RpC w ds [v] F:=by
    intro v es F h1 h2 h3;refine⟨[.list (kw s) (flT s) es],F,?_,?_⟩
    ·rw[hfl];simp only[OkC,Ok,and_true,true_and];exact⟨h1,h2⟩
    ·simp only[RpC];exact⟨v,[],F,[],rfl,by simp,h3,rfl,rfl⟩
   rcases DataW.trod_slice hU h with ⟨rfl,_⟩|⟨a,len,cap,elems,rest,n,hn,rfl,_,_,hlc,hcm,hel,hget,_⟩
   ·refine out (es:=[]) (F:=[]) (by simp) (by simp[OkE]) ?_;simp only[Rp];exact⟨none,0,0,rfl,rfl,Nat.le_refl _,by simp[maxLen],fun _=>flat_nil,by omega,by simp,.inl (by simp)⟩
   ·have hn':n=fuel:=by omega
    subst hn';have hcm':cap≤maxLen:=by simpa [maxLen] using hcm
    have key:∀i,i < len→∃ds cs F,OkC maxLen (lay s) ds∧RpC w ds cs F∧cs.length=P.cellsOf te∧∀j,j < P.cellsOf te→w.cell? ((a.add (i * P.cellsOf te)).add j)=cs[j]?:=by
     intro i hi;have h1:=hget i hi;rw[List.getElem?_eq_getElem (by omega)]at h1;obtain⟨cs',hc,ht⟩:=Option.bind_eq_some_iff.1 h1;obtain⟨_,hcl,hat⟩:=World.cells?_some hc;obtain⟨ds,F,ok,hrep⟩:=readK hR n te e cs' _ ht hRe;exact⟨ds,cs',F,by rw[hlay];exact ok,hrep,hcl,hat⟩
    by_cases h0:len=0
    ·subst h0;refine out (es:=[]) (F:=[]) (by simp) (by simp[OkE]) ?_;simp only[Rp];exact⟨_,_,_,rfl,rfl,hlc,hcm',fun _=>flat_nil,by omega,by simp,.inl (by simp)⟩
    ·obtain⟨_,cs0,F0,_,_,hl0,hat0⟩:=key 0 (by omega);have hc0:=hat0 0 hpos;simp only[Nat.zero_mul]at hc0;have e00:(a.add 0).add 0=a:=by simp[Addr.add]
     rw[e00,List.getElem?_eq_getElem (by omega)]at hc0;have ha:=spot_noneK hc0;obtain⟨es,xs,G,x1,x2,x3,x4⟩:=build_esK (w:=w) (s:=s) (k:=P.cellsOf te) (b:=a.block) len a.off (fun i hi=>by
      obtain⟨ds,cs,F,ok,hrep,hcl,hat⟩:=key i hi;refine⟨ds,cs,F,ok,hrep,fun j u hu=>?_,hcl⟩;have hj:j < P.cellsOf te:=by rw[← hcl];exact (List.getElem?_eq_some_iff.1 hu).1
      have h2:=hat j hj;rw[ha,add_mk,add_mk,hu]at h2;exact h2)
     refine out (es:=es) (F:=(a.block,a.off+len * kw s)::G) (by omega) x2 ?_;simp only[Rp];refine⟨some a,len,cap,rfl,x1.symm,hlc,hcm',fun hf e he=>(x2.mem e he).flat hf,by omega,fun e he=>(x2.mem e he).length,.inr ⟨by omega,a.block,a.off,xs,G,congrArg some ha,rfl,x3,x4⟩⟩
end
def fitsK(P:Program)(rel:List (TypeId×Nat)):List Field→List Nat→Nat→Nat→Bool
 |[],[],off,all=>off ==all
 |f::fs,t::ts,off,all=>f.offset ==off && rel.contains (f.type,t) && fitsK P rel fs ts (off+P.cellsOf f.type) all
 |_,_,_,_=>false
def Ty.same:Ty→Ty→Bool
 | .int,.int=>true
 | .bool,.bool=>true
 | .str,.str=>true
 | .list a,.list b=>a ==b
 |_,_=>false
def sameTs:List Ty→List Ty→Bool
 |[],[]=>true
 |a::as,b::bs=>a.same b && sameTs as bs
 |_,_=>false
theorem Ty.same_eq:∀{a b:Ty},a.same b=true→a=b
 | .int,.int,_=>rfl
 | .bool,.bool,_=>rfl
 | .str,.str,_=>rfl
 | .list a,.list b,h=>by simp only[Ty.same,beq_iff_eq]at h;rw[h]
 | .int,.bool,h | .int,.str,h | .int,.list _,h | .bool,.int,h | .bool,.str,h | .bool,.list _,h | .str,.int,h | .str,.bool,h | .str,.list _,h | .list _,.int,h | .list _,.bool,h | .list _,.str,h=>by cases h
theorem sameTs_eq:∀{a b:List Ty},sameTs a b=true→a=b
 |[],[],_=>rfl
 |a::as,b::bs,h=>by
  simp only[sameTs,Bool.and_eq_true]at h;rw[Ty.same_eq h.1,sameTs_eq h.2]
 |[],_::_,h|_::_,[],h=>by cases h
def relOkK(P:Program)(rel:List (TypeId×Nat)):Bool:=
 rel.all fun x=>match P.underlying x.1,kty x.2 with
  |some (.int .i64),.int=>sameTs (flay x.2) [.int]
  |some .bool,.bool=>sameTs (flay x.2) [.bool]
  |some .string,.str=>sameTs (flay x.2) [.str]
  |some (.slice te),.list e s=>rel.contains (te,e) && sameTs (flay x.2) [.list s] && sameTs (lay s) (flay e) && decide (0 < P.cellsOf te) && decide (kw s=P.cellsOf te)
  |some (.struct fs),.agg ts=>sameTs (flay x.2) (flays ts) && fitsK P rel fs.toList ts 0 (P.cellsOf x.1)
  |_,_=>false
theorem fitsK_of{P:Program}{rel:List (TypeId×Nat)}:∀(fs:List Field) (ts:List Nat) (off all:Nat),fitsK P rel fs ts off all=true→FitsK P (fun t τ=>(t,τ)∈rel) fs ts off all
 |[],[],off,all,h=>by simpa [fitsK,FitsK] using h
 |[],_::_,_,_,h=>by simp[fitsK]at h
 |_::_,[],_,_,h=>by simp[fitsK]at h
 |f::fs,t::ts,off,all,h=>by
  simp only[fitsK,Bool.and_eq_true,beq_iff_eq,List.contains_iff_mem]at h;simp only[FitsK];exact⟨h.1.1,h.1.2,fitsK_of fs ts _ all h.2⟩
theorem relK_of{P:Program}{rel:List (TypeId×Nat)}(h:relOkK P rel=true):TyRelK P (fun t τ=>(t,τ)∈rel):=by
 intro t τ hm;have h1:=List.all_eq_true.1 h (t,τ) hm;dsimp only at h1;cases hu:P.underlying t with
 |none=>rw[hu]at h1;cases hy:kty τ<;>rw[hy]at h1<;>simp at h1
 |some d=>
  rw[hu]at h1;cases hy:kty τ with
  |int=>rw[hy]at h1;dsimp only;split at h1<;>simp_all;exact sameTs_eq h1
  |bool=>rw[hy]at h1;dsimp only;split at h1<;>simp_all;exact sameTs_eq h1
  |str=>rw[hy]at h1;dsimp only;split at h1<;>simp_all;exact sameTs_eq h1
  |list e s=>
   rw[hy]at h1;dsimp only
   split at h1<;>simp_all
   exact⟨sameTs_eq h1.1.1.1.2,sameTs_eq h1.1.1.2⟩
  |agg ts=>
   rw[hy]at h1;dsimp only
   split at h1<;>simp_all
   exact⟨sameTs_eq h1.1,fitsK_of _ _ _ _ h1.2⟩
def ArgR(w:World)(a:A)(v:Value)(G:Fp):Prop:=∃ag ds vs,a=.val ag (ds.map .d)∧RpC w ds vs G∧(ag=true→v=.agg vs.toArray)∧(ag=false→vs=[v])
def ArgRs(w:World):List A→List Value→Fp→Prop
 |[],vs,G=>vs=[]∧G=[]
 |a::as,vs,G=>∃v vs' G1 G2,vs=v::vs'∧G=G1++G2∧ArgR w a v G1∧ArgRs w as vs' G2
theorem argRs_nil{w:World}:ArgRs w [] [] []:=⟨rfl,rfl⟩
theorem argRs_cons{w:World}{a:A}{v:Value}{as:List A}{vs:List Value}{G1 G2:Fp}(h:ArgR w a v G1)(h':ArgRs w as vs G2):ArgRs w (a::as) (v::vs) (G1++G2):=⟨v,vs,G1,G2,rfl,rfl,h,h'⟩
theorem argR_one{w:World}{d:D}{v:Value}{G:Fp}(h:RpC w [d] [v] G):ArgR w (.val false [.d d]) v G:=⟨false,[d],[v],rfl,h,(fun h=>by cases h),fun _=>rfl⟩
def most:Fp→Nat
 |[]=>0
 |be::G=>be.2+most G
theorem most_le:∀{G:Fp} {be:Nat×Nat},be∈G→be.2≤most G
 |b::G,be,h=>by
  rcases List.mem_cons.1 h with rfl|h
  ·simp only[most];omega
  ·have:=most_le h;simp only[most];omega
def hOf(n m:Nat)(g:Nat):Nat:=if g < n then m else 0
theorem rvrs_of{w:World}{h:Nat→Nat}:∀{ds:List D} {vs:List Value} {G:Fp},RpC w ds vs G→Settled h G→RVRs h w (ds.map .d) vs []
 |[],vs,G,hr,_=>by simp only[RpC]at hr;simp[RVRs,hr.1]
 |d::ds,vs,G,hr,hs=>by
  simp only[RpC]at hr;obtain⟨v,vs',F1,F2,rfl,rfl,h1,h2⟩:=hr;simp only[List.map_cons,RVRs];exact⟨v,vs',[],[],rfl,rfl,⟨rfl,F1,h1,fun be hb=>hs be (by simp[hb])⟩,rvrs_of h2 (fun be hb=>hs be (by simp[hb]))⟩
theorem ars_of{w:World}{h:Nat→Nat}:∀{as:List A} {vs:List Value} {G:Fp},ArgRs w as vs G→Settled h G→ARs h w as vs []
 |[],vs,G,hr,_=>by simp only[ArgRs]at hr;simp[ARs,hr.1]
 |a::as,vs,G,hr,hs=>by
  simp only[ArgRs]at hr;obtain⟨v,vs',F1,F2,rfl,rfl,⟨ag,ds,us,rfl,h1,h2,h3⟩,h4⟩:=hr;simp only[ARs];exact⟨v,vs',[],[],rfl,rfl,⟨us,rvrs_of h1 (fun be hb=>hs be (by simp[hb])),h2,h3⟩,ars_of h4 (fun be hb=>hs be (by simp[hb]))⟩
theorem argRs_lt{w:World}:∀{as:List A} {vs:List Value} {G:Fp},ArgRs w as vs G→∀be∈G,be.1 < w.heap.size
 |[],vs,G,hr,be,hb=>by simp only[ArgRs]at hr;rw[hr.2]at hb;simp at hb
 |a::as,vs,G,hr,be,hb=>by
  simp only[ArgRs]at hr;obtain⟨v,vs',F1,F2,rfl,rfl,⟨ag,ds,us,rfl,h1,_⟩,h4⟩:=hr;rcases List.mem_append.1 hb with hb|hb
  ·exact RpC.lt ds h1 be hb
  ·exact argRs_lt h4 be hb
end
end Go.Proofs.YtcdjbelccndadaaGreatDoor
