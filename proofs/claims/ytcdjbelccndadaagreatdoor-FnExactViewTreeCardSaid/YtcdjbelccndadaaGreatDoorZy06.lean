/- Part of the proof: a machine over plain data, its proof, the functions of the program run on symbols, what they answer. Condition: none. -/
import Derived.Test.YtcdjbelccndadaaGreatDoorZy05
set_option linter.unusedVariables false
set_option linter.unusedSimpArgs false
open Int renaming toNat_natCast->cE
open List renaming nil_append->ao,mem_cons->ay,replicate->aE,append_nil->aG,take_length->aU,sizeOf_lt_of_mem->aW,length_take->a_,take_zero->ba,getElem?_append_right->cr,drop_length->cu,mem_cons_of_mem->cz,mem_cons_self->eu,drop_of_length_le->eB,not_mem_nil->gM
open Nat renaming lt_irrefl->aq,reduceEqDiff->aw,zero_add->bm,sub_self->oM
open SizeOf renaming sizeOf->ah
namespace Go.Proofs.YtcdjbelccndadaaGreatDoor
set_option maxRecDepth 100000
set_option maxHeartbeats 4000000
section
noncomputable abbrev G:Gf:=GF T GB
theorem yA(a lo hi:Int):G 74 [.int .i64 a,.int .i64 lo,.int .i64 hi]=some (0,[.bool (fg lo hi a)]):=by
 refine bY s74 rfl ?_;simp only[go_sem,t74];unfold fg;by_cases h:lo<=a
 ·simp only[go_sem,h]
 ·simp only[go_sem,h]
theorem acZ{b:Int}(h:0<=b/\b<=255):G 217 [.int .u8 b]=some (0,[.bool (fg 97 122 b)]):=by
 refine bY aea rfl ?_;simp only[go_sem,t217,Xa h,yA]
theorem ac0{b:Int}(h:0<=b/\b<=255):G 218 [.int .u8 b]=some (0,[.bool (fg 48 57 b)]):=by
 refine bY aeb rfl ?_;simp only[go_sem,t218,Xa h,yA]
theorem Zs(b:Int):G 258 [.int .u8 b]=some (0,[.bool (fg 97 122 b)]):=by
 refine bY aeG rfl ?_;simp only[go_sem,afu];unfold fg;by_cases h:97<=b
 ·simp only[go_sem,h]
 ·simp only[go_sem,h]
theorem ada(b:Int):G 259 [.int .u8 b]=some (0,[.bool (fg 48 57 b)]):=by
 refine bY aeH rfl ?_;simp only[go_sem,afv];unfold fg;by_cases h:48<=b
 ·simp only[go_sem,h]
 ·simp only[go_sem,h]
def xY(b:Int):Bool:=fg 97 122 b ||(fg 48 57 b ||decide (b=45))
def Jp(b:Int):Bool:=fg 97 122 b ||(fg 48 57 b ||(decide (b=95) ||(decide (b=45) ||decide (b=46))))
theorem ahX(b:Int):G 260 [.int .u8 b]=some (0,[.bool (xY b)]):=by
 refine bY aeI rfl ?_;simp only[go_sem,afw,Zs]
 repeat' (first|with_reducible rfl|((first|rw[eZ]|rw[fe]|rw[eY]|rw[fc]);split<;>simp only[go_sem,ada, *]))
 all_goals simp_all[xY]
theorem ac1{b:Int}(h:0<=b/\b<=255):G 219 [.int .u8 b]=some (0,[.bool (Jp b)]):=by
 refine bY aec rfl ?_;simp only[go_sem,t219,acZ h]
 repeat' (first|with_reducible rfl|((first|rw[eZ]|rw[fe]|rw[eY]|rw[fc]);split<;>simp only[go_sem,ac0 h, *]))
 all_goals simp_all[Jp]
def isName(s:ByteArray):Bool:=fg 1 16 s.size && (fg 97 122 (da s 0) && (oP (λi=>xY (da s i)) 1 (s.size - 1) && !decide (da s (s.size - 1)=45)))
def WZ(s:ByteArray)(i:Nat):Bool:=fg 97 122 (da s i) ||!decide ((i:Int)=0) && (fg 48 57 (da s i) ||decide (da s i=45))
theorem RS(s:ByteArray):(oP (WZ s) 0 s.size && (fg 1 16 s.size && !decide (da s (s.size - 1)=45)))=isName s:=by
 unfold isName;by_cases h0:s.size=0
 ·have:fg 1 16 s.size=false:=by rw[h0];rfl
  rw[this];simp
 ·obtain⟨n,hn⟩:∃n,s.size=n+1:=⟨s.size - 1,by omega⟩
  have h1:oP (WZ s) 0 s.size=(fg 97 122 (da s 0) && oP (λi=>xY (da s i)) 1 (s.size - 1)):=by
   rw[hn];simp only[oP,bm,Nat.add_sub_cancel];have h2:WZ s 0=fg 97 122 (da s 0):=by simp[WZ]
   rw[h2,zw n 1 λj h1 h2=>?_];have:¬j=0:=by omega
   simp[WZ,xY,this]
  rw[h1];cases fg 97 122 (da s 0)<;>cases oP (λi=>xY (da s i)) 1 (s.size - 1)<;>cases fg 1 16 s.size<;>simp
theorem Mi{s:ByteArray}(h:1<=s.size)(hs:s.size<=mg):IntKind.i64.wrap ((s.size:Int) - 1)=((s.size - 1:Nat):Int):=by
 simp only[mg]at hs;rw[wrap_i64 (by omega)];omega
theorem Vv{s:ByteArray}(hs:s.size<=mg):G 202 [.str s]=some (0,[.bool (isName s)]):=by
 refine bY adX rfl ?_;simp only[go_sem,t202];have hl:=oy (b:=lB G EG) (λi=>(0,[.str s,.int .i64 (i:Int)])) (WZ s) s.size (1,[.str s,.int .i64 s.size,.bool false]) (0,[.bool false]) (by
  intro i hi;have hw:=wj hi hs;simp only[go_sem,bl,EG,hi,ek,yA]
  repeat' (first|with_reducible rfl|((first|rw[eZ]|rw[fe]|rw[eY]|rw[fc]);split<;>simp only[go_sem,ek,yA, *]))
  all_goals simp_all[WZ]) (by simp only[go_sem,bl,EG,aq]) s.size 0 (by omega)
 rw[n0]at hl;rw[hl,<- RS];cases oP (WZ s) 0 s.size with
 |false=>simp only[go_sem]
 |true=>
  simp only[go_sem,yA];cases hb:fg 1 16 (s.size:Int) with
  |false=>simp only[go_sem]
  |true=>
   have h1:=(fJ _ _ _).1 hb;have h2:=Mi (s:=s) (by omega) hs;simp only[go_sem,h2,ek _ _ (show s.size - 1 < s.size by omega)]
theorem Vx{s:ByteArray}(hs:s.size<=mg):G 261 [.str s]=some (0,[.bool (isName s)]):=by
 refine bY aeJ rfl ?_;simp only[go_sem,afx];by_cases h1:(s.size:Int) < 1
 ·have:fg 1 16 (s.size:Int)=false:=by simp[fg];omega
  simp only[go_sem,h1,isName,this]
 by_cases h2:16 < (s.size:Int)
 ·have:fg 1 16 (s.size:Int)=false:=by simp[fg];omega
  simp only[go_sem,h1,h2,isName,this]
 have hb:fg 1 16 (s.size:Int)=true:=by simp[fg];omega
 have hz:=ek s 0 (by omega);rw[n0]at hz;simp only[go_sem,h1,h2,isName,hb,hz,Zs];cases h3:fg 97 122 (da s 0) with
 |false=>simp only[go_sem]
 |true=>
  simp only[go_sem];have hl:=oy (b:=lB G EY) (λi=>(0,[.str s,.int .i64 (i:Int)])) (λi=>xY (da s i)) s.size (1,[.str s,.int .i64 s.size,.bool false]) (0,[.bool false]) (by
   intro i hi;have hw:=wj hi hs;simp only[go_sem,bl,EY,hi,ek,ahX]
   repeat' (first|with_reducible rfl|((first|rw[eZ]|rw[fe]|rw[eY]|rw[fc]);split<;>simp only[go_sem, *]))
   all_goals simp_all) (by simp only[go_sem,bl,EY,aq]) (s.size - 1) 1 (by omega)
  rw[n1]at hl;rw[hl];cases oP (λi=>xY (da s i)) 1 (s.size - 1) with
  |false=>simp only[go_sem]
  |true=>
   have h4:=Mi (s:=s) (by omega) hs;simp only[go_sem,h4,ek _ _ (show s.size - 1 < s.size by omega)]
def gE(s:ByteArray):Bool:=oP (λi=>fg 32 126 (da s i)) 0 s.size && decide ((s.size:Int)<=40)
theorem Vw{s:ByteArray}(hs:s.size<=mg):G 204 [.str s]=some (0,[.bool (gE s)]):=by
 refine bY adZ rfl ?_;simp only[go_sem,t204];have hl:=oy (b:=lB G EI) (λi=>(0,[.str s,.int .i64 (i:Int)])) (λi=>fg 32 126 (da s i)) s.size (1,[.str s,.int .i64 s.size,.bool false]) (0,[.bool false]) (by
  intro i hi;have hw:=wj hi hs;simp only[go_sem,bl,EI,hi,ek,yA]
  repeat' (first|with_reducible rfl|((first|rw[eZ]|rw[fe]|rw[eY]|rw[fc]);split<;>simp only[go_sem, *]))
  all_goals simp_all) (by simp only[go_sem,bl,EI,aq]) s.size 0 (by omega)
 rw[n0]at hl;rw[hl];unfold gE;cases oP (λi=>fg 32 126 (da s i)) 0 s.size<;>simp only[go_sem]
theorem Vy{s:ByteArray}(hs:s.size<=mg):G 264 [.str s]=some (0,[.bool (gE s)]):=by
 refine bY aeM rfl ?_;simp only[go_sem,afA];have hl:=oy (b:=lB G E0) (λi=>(0,[.str s,.int .i64 (i:Int)])) (λi=>fg 32 126 (da s i)) s.size (1,[.str s,.int .i64 s.size,.bool false]) (0,[.bool false]) (by
  intro i hi;have hw:=wj hi hs;simp only[go_sem,bl,E0,hi,ek];by_cases h1:da s i < 32
  ·have:fg 32 126 (da s i)=false:=by simp[fg];omega
   simp only[go_sem,h1,this]
  by_cases h2:126 < da s i
  ·have:fg 32 126 (da s i)=false:=by simp[fg];omega
   simp only[go_sem,h1,h2,this,hi,ek]
  have:fg 32 126 (da s i)=true:=by simp[fg];omega
  simp only[go_sem,h1,h2,this,hi,ek,hw]) (by simp only[go_sem,bl,E0,aq]) s.size 0 (by omega)
 rw[n0]at hl;rw[hl];unfold gE;cases oP (λi=>fg 32 126 (da s i)) 0 s.size<;>simp only[go_sem]
end
def Lz(s:Nat)(n r:Int):Prop:=r=-1\/(0<=r/\r+(s:Int)=n)
theorem xQ{σ ρ:Type}{b:σ->Option (Sg σ ρ)}(es:List (List D))(mk:Int->Nat->σ)(neg:ρ)(fin:Int->ρ)
  (nB:∀i e n,nth es i=some e->0<=n->n<=1048576->b (mk n i)=some (.out neg)\/∃r,0<=r/\r+(eV e:Int)=n/\b (mk n i)=some (.go (mk r (i+1))))
  (fE:∀n,b (mk n es.length)=some (.out (fin n))):∀(m i:Nat) (n:Int),i+m=es.length->0<=n->n<=1048576->
  bR b (mk n i)=some neg\/∃r,0<=r/\r+(nw (es.drop i):Int)=n/\bR b (mk n i)=some (fin r)
 |0,i,n,h,h0,h1=>by
  obtain rfl:i=es.length:=by omega
  refine .inr ⟨n,h0,?_,bk (fE n)⟩;rw[cu,nw];omega
 |m+1,i,n,h,h0,h1=>by
  have hi:i < es.length:=by omega
  have hn:nth es i=some es[i]:=dr hi;have hd:es.drop i=es[i]::es.drop (i+1):=List.drop_eq_getElem_cons hi;rcases nB i _ n hn h0 h1 with g|⟨r,p,q,g⟩
  ·exact .inl (bk g)
  ·rw[cF g,hd,nw];rcases xQ es mk neg fin nB fE m (i+1) r (by omega) p (by omega) with g|⟨r',p',q',g⟩
   ·exact .inl g
   ·exact .inr ⟨r',p',by omega,g⟩
theorem xR{σ ρ:Type}{b:σ->Option (Sg σ ρ)}(es:List (List D))(z:List D)(mk:Nat->List (List D)->σ)(fin:List (List D)->ρ)
  (nB:∀i e acc,nth es i=some e->nth acc i=some z->b (mk i acc)=some (.go (mk (i+1) (acc.set i e))))
  (fE:∀acc,b (mk es.length acc)=some (.out (fin acc))):bR b (mk 0 (aE es.length z))=some (fin es):=by
 have h:=ej (b:=b) es mk (λi=>es.take i++aE (es.length - i) z) (fin es) (by
  intro i e hn;have hi:=aP hn;have hz:nth (es.take i++aE (es.length - i) z) i=some z:=by
   rw[cU,cr (by rw[a_];omega),a_,List.getElem?_replicate,if_pos (by omega)]
  have h:=nB i e _ hn hz;rw[QF hn]at h;exact h) (by
  have h:=fE (es.take es.length++aE (es.length - es.length) z);rw[aU,oM,List.replicate_zero,aG]at h ⊢;exact h) es.length 0 (by omega)
 rw[ba,ao,Nat.sub_zero]at h;exact h
theorem sx{k:Nat}{fl:Bool}{es:List (List D)}{i:Nat}{z ds:List D}(h:nth es i=some z)(hz:z.length=k)(hd:ds.length=k)(hf:fl=true->cQ ds=true) :
  aJ (.set 0) (.list k fl es::.int .i64 (i:Int)::ds)=some (.list k fl (es.set i ds)):=by
 simp only[aJ,cE,h];rw[if_pos ⟨by omega,hf⟩];have:fR z 0 ds=ds:=by
  unfold fR;rw[ba,ao,bm,eB (by omega),aG]
 rw[this]
theorem oE{k by_:Nat}{fl:Bool}{zs:List SK}{n:Nat}(hn:n<=mg)(hb:by_<=4096):aJ (.make k by_ fl zs) [.int .i64 (n:Int)]=some (.list k fl (aE n (zs.map SK.d))):=by
 simp only[aJ,cE];rw[if_pos];have:n * by_<=mg * 4096:=Nat.mul_le_mul hn hb;simp only[mg,room]at *;omega
theorem ni{α:Type}{f:α->List D}:∀{es:List (List D)},(∀e∈es,∃x,e=f x)->∃xs:List α,es=xs.map f
 |[],_=>⟨[],rfl⟩
 |e::es,h=>by
  obtain⟨x,rfl⟩:=h e eu;obtain⟨xs,rfl⟩:=ni (es:=es) λe he=>h e (cz _ he);exact⟨x::xs,rfl⟩
theorem jj{k:Nat}{fl:Bool}{xs es:List (List D)}{e:List D}(he:e∈es)(hx:D.list k fl xs∈e):ah xs < ah es:=by
 have h1:=aW he;have h2:=aW hx;simp only[D.list.sizeOf_spec]at h2;omega
section
theorem vl{B:Nat}{e:List D}(h:eE B (lay 0) e):∃x0,e=[.str x0]/\(x0.size<=maxLen):=by
 obtain⟨_,_,rfl,h0,g0⟩:=h.cons_inv;obtain⟨x0,rfl,b0⟩:=h0.iV;rw[g0.iT];exact⟨x0,rfl,b0⟩
theorem mq{B:Nat}{e:List D}(h:eE B (lay 1) e):∃x0 x1 x2 x3,e=[.str x0,.list 1 true x1,.int .i64 x2,.bool x3]/\(x0.size<=maxLen)/\(x1.length<=B/\dL B 0 x1)/\(-9223372036854775808<=x2/\x2<=9223372036854775807)/\(True):=by
 obtain⟨_,_,rfl,h0,g0⟩:=h.cons_inv;obtain⟨x0,rfl,b0⟩:=h0.iV;obtain⟨_,_,rfl,h1,g1⟩:=g0.cons_inv;obtain⟨x1,rfl,b1,c1⟩:=h1.fh;obtain⟨_,_,rfl,h2,g2⟩:=g1.cons_inv;obtain⟨x2,rfl,b2⟩:=h2.jW;obtain⟨_,_,rfl,h3,g3⟩:=g2.cons_inv;obtain⟨x3,rfl⟩:=h3.mj;rw[g3.iT];exact⟨x0,x1,x2,x3,rfl,b0,⟨b1,c1⟩,⟨b2.1,b2.2⟩,trivial⟩
theorem je{B:Nat}{e:List D}(h:eE B (lay 2) e):∃x0 x1 x2,e=[.str x0,.str x1,.list 3 false x2]/\(x0.size<=maxLen)/\(x1.size<=maxLen)/\(x2.length<=B/\dL B 2 x2):=by
 obtain⟨_,_,rfl,h0,g0⟩:=h.cons_inv;obtain⟨x0,rfl,b0⟩:=h0.iV;obtain⟨_,_,rfl,h1,g1⟩:=g0.cons_inv;obtain⟨x1,rfl,b1⟩:=h1.iV;obtain⟨_,_,rfl,h2,g2⟩:=g1.cons_inv;obtain⟨x2,rfl,b2,c2⟩:=h2.fh;rw[g2.iT];exact⟨x0,x1,x2,rfl,b0,b1,⟨b2,c2⟩⟩
theorem lR{B:Nat}{e:List D}(h:eE B (lay 6) e):∃x0 x1,e=[.int .i64 x0,.int .i64 x1]/\(-9223372036854775808<=x0/\x0<=9223372036854775807)/\(-9223372036854775808<=x1/\x1<=9223372036854775807):=by
 obtain⟨_,_,rfl,h0,g0⟩:=h.cons_inv;obtain⟨x0,rfl,b0⟩:=h0.jW;obtain⟨_,_,rfl,h1,g1⟩:=g0.cons_inv;obtain⟨x1,rfl,b1⟩:=h1.jW;rw[g1.iT];exact⟨x0,x1,rfl,⟨b0.1,b0.2⟩,⟨b1.1,b1.2⟩⟩
theorem Ak{B:Nat}{e:List D}(h:eE B (lay 7) e):∃x0 x1 x2 x3 x4,e=[.int .i64 x0,.list 2 true x1,.list 1 true x2,.str x3,.str x4]/\(-9223372036854775808<=x0/\x0<=9223372036854775807)/\(x1.length<=B/\dL B 6 x1)/\(x2.length<=B/\dL B 0 x2)/\(x3.size<=maxLen)/\(x4.size<=maxLen):=by
 obtain⟨_,_,rfl,h0,g0⟩:=h.cons_inv;obtain⟨x0,rfl,b0⟩:=h0.jW;obtain⟨_,_,rfl,h1,g1⟩:=g0.cons_inv;obtain⟨x1,rfl,b1,c1⟩:=h1.fh;obtain⟨_,_,rfl,h2,g2⟩:=g1.cons_inv;obtain⟨x2,rfl,b2,c2⟩:=h2.fh;obtain⟨_,_,rfl,h3,g3⟩:=g2.cons_inv;obtain⟨x3,rfl,b3⟩:=h3.iV;obtain⟨_,_,rfl,h4,g4⟩:=g3.cons_inv;obtain⟨x4,rfl,b4⟩:=h4.iV;rw[g4.iT];exact⟨x0,x1,x2,x3,x4,rfl,⟨b0.1,b0.2⟩,⟨b1,c1⟩,⟨b2,c2⟩,b3,b4⟩
theorem mu{B:Nat}{e:List D}(h:eE B (lay 8) e):∃x0 x1,e=[.str x0,.str x1]/\(x0.size<=maxLen)/\(x1.size<=maxLen):=by
 obtain⟨_,_,rfl,h0,g0⟩:=h.cons_inv;obtain⟨x0,rfl,b0⟩:=h0.iV;obtain⟨_,_,rfl,h1,g1⟩:=g0.cons_inv;obtain⟨x1,rfl,b1⟩:=h1.iV;rw[g1.iT];exact⟨x0,x1,rfl,b0,b1⟩
theorem mr{B:Nat}{e:List D}(h:eE B (lay 9) e):∃x0 x1,e=[.str x0,.list 2 true x1]/\(x0.size<=maxLen)/\(x1.length<=B/\dL B 8 x1):=by
 obtain⟨_,_,rfl,h0,g0⟩:=h.cons_inv;obtain⟨x0,rfl,b0⟩:=h0.iV;obtain⟨_,_,rfl,h1,g1⟩:=g0.cons_inv;obtain⟨x1,rfl,b1,c1⟩:=h1.fh;rw[g1.iT];exact⟨x0,x1,rfl,b0,⟨b1,c1⟩⟩
theorem Aj{B:Nat}{e:List D}(h:eE B (lay 10) e):∃x0 x1 x2,e=[.bool x0,.int .i64 x1,.list 2 false x2]/\(True)/\(-9223372036854775808<=x1/\x1<=9223372036854775807)/\(x2.length<=B/\dL B 9 x2):=by
 obtain⟨_,_,rfl,h0,g0⟩:=h.cons_inv;obtain⟨x0,rfl⟩:=h0.mj;obtain⟨_,_,rfl,h1,g1⟩:=g0.cons_inv;obtain⟨x1,rfl,b1⟩:=h1.jW;obtain⟨_,_,rfl,h2,g2⟩:=g1.cons_inv;obtain⟨x2,rfl,b2,c2⟩:=h2.fh;rw[g2.iT];exact⟨x0,x1,x2,rfl,trivial,⟨b1.1,b1.2⟩,⟨b2,c2⟩⟩
theorem ko{B:Nat}{e:List D}(h:eE B (lay 11) e):∃x0 x1 x2 x3 x4 x5 x6,e=[.int .i64 x0,.int .i64 x1,.str x2,.bool x3,.int .i64 x4,.list 2 false x5,.list 7 false x6]/\(-9223372036854775808<=x0/\x0<=9223372036854775807)/\(-9223372036854775808<=x1/\x1<=9223372036854775807)/\(x2.size<=maxLen)/\(True)/\(-9223372036854775808<=x4/\x4<=9223372036854775807)/\(x5.length<=B/\dL B 9 x5)/\(x6.length<=B/\dL B 11 x6):=by
 obtain⟨_,_,rfl,h0,g0⟩:=h.cons_inv;obtain⟨x0,rfl,b0⟩:=h0.jW;obtain⟨_,_,rfl,h1,g1⟩:=g0.cons_inv;obtain⟨x1,rfl,b1⟩:=h1.jW;obtain⟨_,_,rfl,h2,g2⟩:=g1.cons_inv;obtain⟨x2,rfl,b2⟩:=h2.iV;obtain⟨_,_,rfl,h3,g3⟩:=g2.cons_inv;obtain⟨x3,rfl⟩:=h3.mj;obtain⟨_,_,rfl,h4,g4⟩:=g3.cons_inv;obtain⟨x4,rfl,b4⟩:=h4.jW;obtain⟨_,_,rfl,h5,g5⟩:=g4.cons_inv;obtain⟨x5,rfl,b5,c5⟩:=h5.fh;obtain⟨_,_,rfl,h6,g6⟩:=g5.cons_inv;obtain⟨x6,rfl,b6,c6⟩:=h6.fh;rw[g6.iT];exact⟨x0,x1,x2,x3,x4,x5,x6,rfl,⟨b0.1,b0.2⟩,⟨b1.1,b1.2⟩,b2,trivial,⟨b4.1,b4.2⟩,⟨b5,c5⟩,⟨b6,c6⟩⟩
theorem ij{B:Nat}{e:List D}(h:eE B (lay 12) e):∃x0 x1 x2 x3 x4 x5 x6 x7 x8 x9 x10 x11 x12 x13 x14 x15 x16 x17 x18,e=[.int .i64 x0,.str x1,.int .i64 x2,.list 2 true x3,.list 1 true x4,.str x5,.str x6,.list 1 true x7,.list 1 true x8,.str x9,.bool x10,.bool x11,.bool x12,.bool x13,.int .i64 x14,.int .i64 x15,.list 7 false x16,.list 7 false x17,.list 19 false x18]/\(-9223372036854775808<=x0/\x0<=9223372036854775807)/\(x1.size<=maxLen)/\(-9223372036854775808<=x2/\x2<=9223372036854775807)/\(x3.length<=B/\dL B 6 x3)/\(x4.length<=B/\dL B 0 x4)/\(x5.size<=maxLen)/\(x6.size<=maxLen)/\(x7.length<=B/\dL B 0 x7)/\(x8.length<=B/\dL B 0 x8)/\(x9.size<=maxLen)/\(True)/\(True)/\(True)/\(True)/\(-9223372036854775808<=x14/\x14<=9223372036854775807)/\(-9223372036854775808<=x15/\x15<=9223372036854775807)/\(x16.length<=B/\dL B 11 x16)/\(x17.length<=B/\dL B 11 x17)/\(x18.length<=B/\dL B 12 x18):=by
 obtain⟨_,_,rfl,h0,g0⟩:=h.cons_inv;obtain⟨x0,rfl,b0⟩:=h0.jW;obtain⟨_,_,rfl,h1,g1⟩:=g0.cons_inv;obtain⟨x1,rfl,b1⟩:=h1.iV;obtain⟨_,_,rfl,h2,g2⟩:=g1.cons_inv;obtain⟨x2,rfl,b2⟩:=h2.jW;obtain⟨_,_,rfl,h3,g3⟩:=g2.cons_inv;obtain⟨x3,rfl,b3,c3⟩:=h3.fh;obtain⟨_,_,rfl,h4,g4⟩:=g3.cons_inv;obtain⟨x4,rfl,b4,c4⟩:=h4.fh;obtain⟨_,_,rfl,h5,g5⟩:=g4.cons_inv;obtain⟨x5,rfl,b5⟩:=h5.iV;obtain⟨_,_,rfl,h6,g6⟩:=g5.cons_inv;obtain⟨x6,rfl,b6⟩:=h6.iV;obtain⟨_,_,rfl,h7,g7⟩:=g6.cons_inv;obtain⟨x7,rfl,b7,c7⟩:=h7.fh;obtain⟨_,_,rfl,h8,g8⟩:=g7.cons_inv;obtain⟨x8,rfl,b8,c8⟩:=h8.fh;obtain⟨_,_,rfl,h9,g9⟩:=g8.cons_inv;obtain⟨x9,rfl,b9⟩:=h9.iV;obtain⟨_,_,rfl,Gl,g10⟩:=g9.cons_inv;obtain⟨x10,rfl⟩:=Gl.mj;obtain⟨_,_,rfl,Nu,g11⟩:=g10.cons_inv;obtain⟨x11,rfl⟩:=Nu.mj;obtain⟨_,_,rfl,JJ,g12⟩:=g11.cons_inv;obtain⟨x12,rfl⟩:=JJ.mj;obtain⟨_,_,rfl,h13,g13⟩:=g12.cons_inv;obtain⟨x13,rfl⟩:=h13.mj;obtain⟨_,_,rfl,h14,g14⟩:=g13.cons_inv;obtain⟨x14,rfl,b14⟩:=h14.jW;obtain⟨_,_,rfl,h15,g15⟩:=g14.cons_inv;obtain⟨x15,rfl,b15⟩:=h15.jW;obtain⟨_,_,rfl,h16,g16⟩:=g15.cons_inv;obtain⟨x16,rfl,K9,CG⟩:=h16.fh;obtain⟨_,_,rfl,h17,g17⟩:=g16.cons_inv;obtain⟨x17,rfl,K_,D2⟩:=h17.fh;obtain⟨_,_,rfl,h18,g18⟩:=g17.cons_inv;obtain⟨x18,rfl,OV,IY⟩:=h18.fh;rw[g18.iT];exact⟨x0,x1,x2,x3,x4,x5,x6,x7,x8,x9,x10,x11,x12,x13,x14,x15,x16,x17,x18,rfl,⟨b0.1,b0.2⟩,b1,⟨b2.1,b2.2⟩,⟨b3,c3⟩,⟨b4,c4⟩,b5,b6,⟨b7,c7⟩,⟨b8,c8⟩,b9,trivial,trivial,trivial,trivial,⟨b14.1,b14.2⟩,⟨b15.1,b15.2⟩,⟨K9,CG⟩,⟨K_,D2⟩,⟨OV,IY⟩⟩
theorem As{B:Nat}{e:List D}{xs:List (List D)}(ok:eE B (lay 2) e)(h:.list 3 false xs∈e):xs.length<=B/\dL B 2 xs:=by
 obtain⟨x0,x1,x2,rfl,b0,b1,⟨b2,c2⟩⟩:=je ok;simp only[ay,D.list.injEq,reduceCtorEq,gM,or_false,false_or,true_and]at h;subst h;exact⟨b2,c2⟩
theorem Ar{B:Nat}{e:List D}{xs:List (List D)}(ok:eE B (lay 11) e)(h:.list 7 false xs∈e):xs.length<=B/\dL B 11 xs:=by
 obtain⟨x0,x1,x2,x3,x4,x5,x6,rfl,_,_,b2,_,_,⟨b5,c5⟩,⟨b6,c6⟩⟩:=ko ok;simp only[ay,D.list.injEq,reduceCtorEq,gM,or_false,false_or,aw,false_and,true_and]at h;subst h;exact⟨b6,c6⟩
theorem uf{B:Nat}{e:List D}{xs:List (List D)}(ok:eE B (lay 12) e)(h:.list 19 false xs∈e):xs.length<=B/\dL B 12 xs:=by
 obtain⟨x0,x1,x2,x3,x4,x5,x6,x7,x8,x9,x10,x11,x12,x13,x14,x15,x16,x17,x18,rfl,_,b1,_,⟨b3,c3⟩,⟨b4,c4⟩,b5,b6,⟨b7,c7⟩,⟨b8,c8⟩,b9,_,_,_,_,_,_,⟨K9,CG⟩,⟨K_,D2⟩,⟨OV,IY⟩⟩:=ij ok;simp only[ay,D.list.injEq,reduceCtorEq,gM,or_false,false_or,aw,false_and,true_and,and_false]at h;subst h;exact⟨OV,IY⟩
end
end Go.Proofs.YtcdjbelccndadaaGreatDoor
