/- Part of the proof: a machine over plain data, its proof, the functions of the program run on symbols, what they answer. Condition: none. -/
import Derived.Test.YtcdjbelccndadaaGreatDoorZz05
set_option linter.unusedVariables false
set_option linter.unusedSimpArgs false
open Int renaming toNat_natCast->cB
open List renaming nil_append->ak,mem_cons->ay,replicate->aC,append_nil->aD,sizeOf_lt_of_mem->aU,take_length->aW,length_take->aY,take_zero->bg,mem_cons_of_mem->cp,getElem?_append_right->cr,drop_length->cC,mem_cons_self->dQ,drop_of_length_le->ez,not_mem_nil->gP
open Nat renaming lt_irrefl->aq,reduceEqDiff->ax,zero_add->bo,sub_self->oP
open SizeOf renaming sizeOf->ah
namespace Go.Proofs.YtcdjbelccndadaaGreatDoor
set_option maxRecDepth 100000
set_option maxHeartbeats 4000000
section
noncomputable abbrev G:Gf:=GF T GJ
theorem yG(a lo hi:Int):G 74 [.int .i64 a,.int .i64 lo,.int .i64 hi]=some (0,[.bool (ff lo hi a)]):=by
 refine cq s74 rfl ?_;simp only[go_sem,t74];unfold ff;by_cases h:lo<=a
 ·simp only[go_sem,h]
 ·simp only[go_sem,h]
theorem acP{b:Int}(h:0<=b/\b<=255):G 217 [.int .u8 b]=some (0,[.bool (ff 97 122 b)]):=by
 refine cq adV rfl ?_;simp only[go_sem,t217,WY h,yG]
theorem acQ{b:Int}(h:0<=b/\b<=255):G 218 [.int .u8 b]=some (0,[.bool (ff 48 57 b)]):=by
 refine cq adW rfl ?_;simp only[go_sem,t218,WY h,yG]
theorem Zc(b:Int):G 258 [.int .u8 b]=some (0,[.bool (ff 97 122 b)]):=by
 refine cq aes rfl ?_;simp only[go_sem,afg];unfold ff;by_cases h:97<=b
 ·simp only[go_sem,h]
 ·simp only[go_sem,h]
theorem ac0(b:Int):G 259 [.int .u8 b]=some (0,[.bool (ff 48 57 b)]):=by
 refine cq aet rfl ?_;simp only[go_sem,afh];unfold ff;by_cases h:48<=b
 ·simp only[go_sem,h]
 ·simp only[go_sem,h]
def ya(b:Int):Bool:=ff 97 122 b ||(ff 48 57 b ||decide (b=45))
def Jy(b:Int):Bool:=ff 97 122 b ||(ff 48 57 b ||(decide (b=95) ||(decide (b=45) ||decide (b=46))))
theorem ahK(b:Int):G 260 [.int .u8 b]=some (0,[.bool (ya b)]):=by
 refine cq aeu rfl ?_;simp only[go_sem,afi,Zc]
 repeat' (first|with_reducible rfl|((first|rw[eX]|rw[eZ]|rw[eW]|rw[eY]);split<;>simp only[go_sem,ac0, *]))
 all_goals simp_all[ya]
theorem acR{b:Int}(h:0<=b/\b<=255):G 219 [.int .u8 b]=some (0,[.bool (Jy b)]):=by
 refine cq adX rfl ?_;simp only[go_sem,t219,acP h]
 repeat' (first|with_reducible rfl|((first|rw[eX]|rw[eZ]|rw[eW]|rw[eY]);split<;>simp only[go_sem,acQ h, *]))
 all_goals simp_all[Jy]
def isName(s:ByteArray):Bool:=ff 1 16 s.size && (ff 97 122 (da s 0) && (oS (λi=>ya (da s i)) 1 (s.size - 1) && !decide (da s (s.size - 1)=45)))
def WK(s:ByteArray)(i:Nat):Bool:=ff 97 122 (da s i) ||!decide ((i:Int)=0) && (ff 48 57 (da s i) ||decide (da s i=45))
theorem RE(s:ByteArray):(oS (WK s) 0 s.size && (ff 1 16 s.size && !decide (da s (s.size - 1)=45)))=isName s:=by
 unfold isName;by_cases h0:s.size=0
 ·have:ff 1 16 s.size=false:=by rw[h0];rfl
  rw[this];simp
 ·obtain⟨n,hn⟩:∃n,s.size=n+1:=⟨s.size - 1,by omega⟩
  have h1:oS (WK s) 0 s.size=(ff 97 122 (da s 0) && oS (λi=>ya (da s i)) 1 (s.size - 1)):=by
   rw[hn];simp only[oS,bo,Nat.add_sub_cancel];have h2:WK s 0=ff 97 122 (da s 0):=by simp[WK]
   rw[h2,zD n 1 λj h1 h2=>?_];have:¬j=0:=by omega
   simp[WK,ya,this]
  rw[h1];cases ff 97 122 (da s 0)<;>cases oS (λi=>ya (da s i)) 1 (s.size - 1)<;>cases ff 1 16 s.size<;>simp
theorem Mh{s:ByteArray}(h:1<=s.size)(hs:s.size<=mg):IntKind.i64.wrap ((s.size:Int) - 1)=((s.size - 1:Nat):Int):=by
 simp only[mg]at hs;rw[wrap_i64 (by omega)];omega
theorem Vh{s:ByteArray}(hs:s.size<=mg):G 202 [.str s]=some (0,[.bool (isName s)]):=by
 refine cq adH rfl ?_;simp only[go_sem,t202];have hl:=oC (b:=lB G EO) (λi=>(0,[.str s,.int .i64 (i:Int)])) (WK s) s.size (1,[.str s,.int .i64 s.size,.bool false]) (0,[.bool false]) (by
  intro i hi;have hw:=wj hi hs;simp only[go_sem,bm,EO,hi,eo,yG]
  repeat' (first|with_reducible rfl|((first|rw[eX]|rw[eZ]|rw[eW]|rw[eY]);split<;>simp only[go_sem,eo,yG, *]))
  all_goals simp_all[WK]) (by simp only[go_sem,bm,EO,aq]) s.size 0 (by omega)
 rw[n0]at hl;rw[hl,<- RE];cases oS (WK s) 0 s.size with
 |false=>simp only[go_sem]
 |true=>
  simp only[go_sem,yG];cases hb:ff 1 16 (s.size:Int) with
  |false=>simp only[go_sem]
  |true=>
   have h1:=(fH _ _ _).1 hb;have h2:=Mh (s:=s) (by omega) hs;simp only[go_sem,h2,eo _ _ (show s.size - 1 < s.size by omega)]
theorem Vj{s:ByteArray}(hs:s.size<=mg):G 261 [.str s]=some (0,[.bool (isName s)]):=by
 refine cq aev rfl ?_;simp only[go_sem,afj];by_cases h1:(s.size:Int) < 1
 ·have:ff 1 16 (s.size:Int)=false:=by simp[ff];omega
  simp only[go_sem,h1,isName,this]
 by_cases h2:16 < (s.size:Int)
 ·have:ff 1 16 (s.size:Int)=false:=by simp[ff];omega
  simp only[go_sem,h1,h2,isName,this]
 have hb:ff 1 16 (s.size:Int)=true:=by simp[ff];omega
 have hz:=eo s 0 (by omega);rw[n0]at hz;simp only[go_sem,h1,h2,isName,hb,hz,Zc];cases h3:ff 97 122 (da s 0) with
 |false=>simp only[go_sem]
 |true=>
  simp only[go_sem];have hl:=oC (b:=lB G E9) (λi=>(0,[.str s,.int .i64 (i:Int)])) (λi=>ya (da s i)) s.size (1,[.str s,.int .i64 s.size,.bool false]) (0,[.bool false]) (by
   intro i hi;have hw:=wj hi hs;simp only[go_sem,bm,E9,hi,eo,ahK]
   repeat' (first|with_reducible rfl|((first|rw[eX]|rw[eZ]|rw[eW]|rw[eY]);split<;>simp only[go_sem, *]))
   all_goals simp_all) (by simp only[go_sem,bm,E9,aq]) (s.size - 1) 1 (by omega)
  rw[n1]at hl;rw[hl];cases oS (λi=>ya (da s i)) 1 (s.size - 1) with
  |false=>simp only[go_sem]
  |true=>
   have h4:=Mh (s:=s) (by omega) hs;simp only[go_sem,h4,eo _ _ (show s.size - 1 < s.size by omega)]
def gG(s:ByteArray):Bool:=oS (λi=>ff 32 126 (da s i)) 0 s.size && decide ((s.size:Int)<=40)
theorem Vi{s:ByteArray}(hs:s.size<=mg):G 204 [.str s]=some (0,[.bool (gG s)]):=by
 refine cq adJ rfl ?_;simp only[go_sem,t204];have hl:=oC (b:=lB G ER) (λi=>(0,[.str s,.int .i64 (i:Int)])) (λi=>ff 32 126 (da s i)) s.size (1,[.str s,.int .i64 s.size,.bool false]) (0,[.bool false]) (by
  intro i hi;have hw:=wj hi hs;simp only[go_sem,bm,ER,hi,eo,yG]
  repeat' (first|with_reducible rfl|((first|rw[eX]|rw[eZ]|rw[eW]|rw[eY]);split<;>simp only[go_sem, *]))
  all_goals simp_all) (by simp only[go_sem,bm,ER,aq]) s.size 0 (by omega)
 rw[n0]at hl;rw[hl];unfold gG;cases oS (λi=>ff 32 126 (da s i)) 0 s.size<;>simp only[go_sem]
theorem Vk{s:ByteArray}(hs:s.size<=mg):G 264 [.str s]=some (0,[.bool (gG s)]):=by
 refine cq aey rfl ?_;simp only[go_sem,afm];have hl:=oC (b:=lB G Fa) (λi=>(0,[.str s,.int .i64 (i:Int)])) (λi=>ff 32 126 (da s i)) s.size (1,[.str s,.int .i64 s.size,.bool false]) (0,[.bool false]) (by
  intro i hi;have hw:=wj hi hs;simp only[go_sem,bm,Fa,hi,eo];by_cases h1:da s i < 32
  ·have:ff 32 126 (da s i)=false:=by simp[ff];omega
   simp only[go_sem,h1,this]
  by_cases h2:126 < da s i
  ·have:ff 32 126 (da s i)=false:=by simp[ff];omega
   simp only[go_sem,h1,h2,this,hi,eo]
  have:ff 32 126 (da s i)=true:=by simp[ff];omega
  simp only[go_sem,h1,h2,this,hi,eo,hw]) (by simp only[go_sem,bm,Fa,aq]) s.size 0 (by omega)
 rw[n0]at hl;rw[hl];unfold gG;cases oS (λi=>ff 32 126 (da s i)) 0 s.size<;>simp only[go_sem]
end
def Lz(s:Nat)(n r:Int):Prop:=r=-1\/(0<=r/\r+(s:Int)=n)
theorem Al{σ ρ:Type}{b:σ->Option (Sg σ ρ)}(es:List (List D))(mk:Int->Nat->σ)(neg:ρ)(fin:Int->ρ)
  (nA:∀i e n,nth es i=some e->0<=n->n<=1048576->b (mk n i)=some (.out neg)\/∃r,0<=r/\r+(fc e:Int)=n/\b (mk n i)=some (.go (mk r (i+1))))
  (fy:∀n,b (mk n es.length)=some (.out (fin n))):∀(m i:Nat) (n:Int),i+m=es.length->0<=n->n<=1048576->
  bR b (mk n i)=some neg\/∃r,0<=r/\r+(n7 (es.drop i):Int)=n/\bR b (mk n i)=some (fin r)
 |0,i,n,h,h0,h1=>by
  obtain rfl:i=es.length:=by omega
  refine .inr ⟨n,h0,?_,bk (fy n)⟩;rw[cC,n7];omega
 |m+1,i,n,h,h0,h1=>by
  have hi:i < es.length:=by omega
  have hn:nth es i=some es[i]:=dF hi;have hd:es.drop i=es[i]::es.drop (i+1):=List.drop_eq_getElem_cons hi;rcases nA i _ n hn h0 h1 with g|⟨r,p,q,g⟩
  ·exact .inl (bk g)
  ·rw[cE g,hd,n7];rcases Al es mk neg fin nA fy m (i+1) r (by omega) p (by omega) with g|⟨r',p',q',g⟩
   ·exact .inl g
   ·exact .inr ⟨r',p',by omega,g⟩
theorem Am{σ ρ:Type}{b:σ->Option (Sg σ ρ)}(es:List (List D))(z:List D)(mk:Nat->List (List D)->σ)(fin:List (List D)->ρ)
  (nA:∀i e acc,nth es i=some e->nth acc i=some z->b (mk i acc)=some (.go (mk (i+1) (acc.set i e))))
  (fy:∀acc,b (mk es.length acc)=some (.out (fin acc))):bR b (mk 0 (aC es.length z))=some (fin es):=by
 have h:=eB (b:=b) es mk (λi=>es.take i++aC (es.length - i) z) (fin es) (by
  intro i e hn;have hi:=aR hn;have hz:nth (es.take i++aC (es.length - i) z) i=some z:=by
   rw[cV,cr (by rw[aY];omega),aY,List.getElem?_replicate,if_pos (by omega)]
  have h:=nA i e _ hn hz;rw[Qs hn]at h;exact h) (by
  have h:=fy (es.take es.length++aC (es.length - es.length) z);rw[aW,oP,List.replicate_zero,aD]at h ⊢;exact h) es.length 0 (by omega)
 rw[bg,ak,Nat.sub_zero]at h;exact h
theorem uA{k:Nat}{fl:Bool}{es:List (List D)}{i:Nat}{z ds:List D}(h:nth es i=some z)(hz:z.length=k)(hd:ds.length=k)(hf:fl=true->cQ ds=true) :
  aK (.set 0) (.list k fl es::.int .i64 (i:Int)::ds)=some (.list k fl (es.set i ds)):=by
 simp only[aK,cB,h];rw[if_pos ⟨by omega,hf⟩];have:fP z 0 ds=ds:=by
  unfold fP;rw[bg,ak,bo,ez (by omega),aD]
 rw[this]
theorem qB{k by_:Nat}{fl:Bool}{zs:List SK}{n:Nat}(hn:n<=mg)(hb:by_<=4096):aK (.make k by_ fl zs) [.int .i64 (n:Int)]=some (.list k fl (aC n (zs.map SK.d))):=by
 simp only[aK,cB];rw[if_pos];have:n * by_<=mg * 4096:=Nat.mul_le_mul hn hb;simp only[mg,room]at *;omega
theorem oy{α:Type}{f:α->List D}:∀{es:List (List D)},(∀e∈es,∃x,e=f x)->∃xs:List α,es=xs.map f
 |[],_=>⟨[],rfl⟩
 |e::es,h=>by
  obtain⟨x,rfl⟩:=h e dQ;obtain⟨xs,rfl⟩:=oy (es:=es) λe he=>h e (cp _ he);exact⟨x::xs,rfl⟩
theorem jh{k:Nat}{fl:Bool}{xs es:List (List D)}{e:List D}(he:e∈es)(hx:D.list k fl xs∈e):ah xs < ah es:=by
 have h1:=aU he;have h2:=aU hx;simp only[D.list.sizeOf_spec]at h2;omega
section
theorem vk{B:Nat}{e:List D}(h:eO B (lay 0) e):∃x0,e=[.str x0]/\(x0.size<=maxLen):=by
 obtain⟨_,_,rfl,h0,g0⟩:=h.cons_inv;obtain⟨x0,rfl,b0⟩:=h0.jw;rw[g0.jX];exact⟨x0,rfl,b0⟩
theorem jc{B:Nat}{e:List D}(h:eO B (lay 2) e):∃x0 x1 x2,e=[.str x0,.str x1,.list 3 false x2]/\(x0.size<=maxLen)/\(x1.size<=maxLen)/\(x2.length<=B/\eh B 2 x2):=by
 obtain⟨_,_,rfl,h0,g0⟩:=h.cons_inv;obtain⟨x0,rfl,b0⟩:=h0.jw;obtain⟨_,_,rfl,h1,g1⟩:=g0.cons_inv;obtain⟨x1,rfl,b1⟩:=h1.jw;obtain⟨_,_,rfl,h2,g2⟩:=g1.cons_inv;obtain⟨x2,rfl,b2,c2⟩:=h2.fL;rw[g2.jX];exact⟨x0,x1,x2,rfl,b0,b1,⟨b2,c2⟩⟩
theorem lR{B:Nat}{e:List D}(h:eO B (lay 6) e):∃x0 x1,e=[.int .i64 x0,.int .i64 x1]/\(-9223372036854775808<=x0/\x0<=9223372036854775807)/\(-9223372036854775808<=x1/\x1<=9223372036854775807):=by
 obtain⟨_,_,rfl,h0,g0⟩:=h.cons_inv;obtain⟨x0,rfl,b0⟩:=h0.kv;obtain⟨_,_,rfl,h1,g1⟩:=g0.cons_inv;obtain⟨x1,rfl,b1⟩:=h1.kv;rw[g1.jX];exact⟨x0,x1,rfl,⟨b0.1,b0.2⟩,⟨b1.1,b1.2⟩⟩
theorem Au{B:Nat}{e:List D}(h:eO B (lay 7) e):∃x0 x1 x2 x3 x4,e=[.int .i64 x0,.list 2 true x1,.list 1 true x2,.str x3,.str x4]/\(-9223372036854775808<=x0/\x0<=9223372036854775807)/\(x1.length<=B/\eh B 6 x1)/\(x2.length<=B/\eh B 0 x2)/\(x3.size<=maxLen)/\(x4.size<=maxLen):=by
 obtain⟨_,_,rfl,h0,g0⟩:=h.cons_inv;obtain⟨x0,rfl,b0⟩:=h0.kv;obtain⟨_,_,rfl,h1,g1⟩:=g0.cons_inv;obtain⟨x1,rfl,b1,c1⟩:=h1.fL;obtain⟨_,_,rfl,h2,g2⟩:=g1.cons_inv;obtain⟨x2,rfl,b2,c2⟩:=h2.fL;obtain⟨_,_,rfl,h3,g3⟩:=g2.cons_inv;obtain⟨x3,rfl,b3⟩:=h3.jw;obtain⟨_,_,rfl,h4,g4⟩:=g3.cons_inv;obtain⟨x4,rfl,b4⟩:=h4.jw;rw[g4.jX];exact⟨x0,x1,x2,x3,x4,rfl,⟨b0.1,b0.2⟩,⟨b1,c1⟩,⟨b2,c2⟩,b3,b4⟩
theorem mw{B:Nat}{e:List D}(h:eO B (lay 8) e):∃x0 x1,e=[.str x0,.str x1]/\(x0.size<=maxLen)/\(x1.size<=maxLen):=by
 obtain⟨_,_,rfl,h0,g0⟩:=h.cons_inv;obtain⟨x0,rfl,b0⟩:=h0.jw;obtain⟨_,_,rfl,h1,g1⟩:=g0.cons_inv;obtain⟨x1,rfl,b1⟩:=h1.jw;rw[g1.jX];exact⟨x0,x1,rfl,b0,b1⟩
theorem mu{B:Nat}{e:List D}(h:eO B (lay 9) e):∃x0 x1,e=[.str x0,.list 2 true x1]/\(x0.size<=maxLen)/\(x1.length<=B/\eh B 8 x1):=by
 obtain⟨_,_,rfl,h0,g0⟩:=h.cons_inv;obtain⟨x0,rfl,b0⟩:=h0.jw;obtain⟨_,_,rfl,h1,g1⟩:=g0.cons_inv;obtain⟨x1,rfl,b1,c1⟩:=h1.fL;rw[g1.jX];exact⟨x0,x1,rfl,b0,⟨b1,c1⟩⟩
theorem At{B:Nat}{e:List D}(h:eO B (lay 10) e):∃x0 x1 x2,e=[.bool x0,.int .i64 x1,.list 2 false x2]/\(True)/\(-9223372036854775808<=x1/\x1<=9223372036854775807)/\(x2.length<=B/\eh B 9 x2):=by
 obtain⟨_,_,rfl,h0,g0⟩:=h.cons_inv;obtain⟨x0,rfl⟩:=h0.nK;obtain⟨_,_,rfl,h1,g1⟩:=g0.cons_inv;obtain⟨x1,rfl,b1⟩:=h1.kv;obtain⟨_,_,rfl,h2,g2⟩:=g1.cons_inv;obtain⟨x2,rfl,b2,c2⟩:=h2.fL;rw[g2.jX];exact⟨x0,x1,x2,rfl,trivial,⟨b1.1,b1.2⟩,⟨b2,c2⟩⟩
theorem km{B:Nat}{e:List D}(h:eO B (lay 11) e):∃x0 x1 x2 x3 x4 x5 x6,e=[.int .i64 x0,.int .i64 x1,.str x2,.bool x3,.int .i64 x4,.list 2 false x5,.list 7 false x6]/\(-9223372036854775808<=x0/\x0<=9223372036854775807)/\(-9223372036854775808<=x1/\x1<=9223372036854775807)/\(x2.size<=maxLen)/\(True)/\(-9223372036854775808<=x4/\x4<=9223372036854775807)/\(x5.length<=B/\eh B 9 x5)/\(x6.length<=B/\eh B 11 x6):=by
 obtain⟨_,_,rfl,h0,g0⟩:=h.cons_inv;obtain⟨x0,rfl,b0⟩:=h0.kv;obtain⟨_,_,rfl,h1,g1⟩:=g0.cons_inv;obtain⟨x1,rfl,b1⟩:=h1.kv;obtain⟨_,_,rfl,h2,g2⟩:=g1.cons_inv;obtain⟨x2,rfl,b2⟩:=h2.jw;obtain⟨_,_,rfl,h3,g3⟩:=g2.cons_inv;obtain⟨x3,rfl⟩:=h3.nK;obtain⟨_,_,rfl,h4,g4⟩:=g3.cons_inv;obtain⟨x4,rfl,b4⟩:=h4.kv;obtain⟨_,_,rfl,h5,g5⟩:=g4.cons_inv;obtain⟨x5,rfl,b5,c5⟩:=h5.fL;obtain⟨_,_,rfl,h6,g6⟩:=g5.cons_inv;obtain⟨x6,rfl,b6,c6⟩:=h6.fL;rw[g6.jX];exact⟨x0,x1,x2,x3,x4,x5,x6,rfl,⟨b0.1,b0.2⟩,⟨b1.1,b1.2⟩,b2,trivial,⟨b4.1,b4.2⟩,⟨b5,c5⟩,⟨b6,c6⟩⟩
theorem ig{B:Nat}{e:List D}(h:eO B (lay 12) e):∃x0 x1 x2 x3 x4 x5 x6 x7 x8 x9 x10 x11 x12 x13 x14 x15 x16 x17 x18,e=[.int .i64 x0,.str x1,.int .i64 x2,.list 2 true x3,.list 1 true x4,.str x5,.str x6,.list 1 true x7,.list 1 true x8,.str x9,.bool x10,.bool x11,.bool x12,.bool x13,.int .i64 x14,.int .i64 x15,.list 7 false x16,.list 7 false x17,.list 19 false x18]/\(-9223372036854775808<=x0/\x0<=9223372036854775807)/\(x1.size<=maxLen)/\(-9223372036854775808<=x2/\x2<=9223372036854775807)/\(x3.length<=B/\eh B 6 x3)/\(x4.length<=B/\eh B 0 x4)/\(x5.size<=maxLen)/\(x6.size<=maxLen)/\(x7.length<=B/\eh B 0 x7)/\(x8.length<=B/\eh B 0 x8)/\(x9.size<=maxLen)/\(True)/\(True)/\(True)/\(True)/\(-9223372036854775808<=x14/\x14<=9223372036854775807)/\(-9223372036854775808<=x15/\x15<=9223372036854775807)/\(x16.length<=B/\eh B 11 x16)/\(x17.length<=B/\eh B 11 x17)/\(x18.length<=B/\eh B 12 x18):=by
 obtain⟨_,_,rfl,h0,g0⟩:=h.cons_inv;obtain⟨x0,rfl,b0⟩:=h0.kv;obtain⟨_,_,rfl,h1,g1⟩:=g0.cons_inv;obtain⟨x1,rfl,b1⟩:=h1.jw;obtain⟨_,_,rfl,h2,g2⟩:=g1.cons_inv;obtain⟨x2,rfl,b2⟩:=h2.kv;obtain⟨_,_,rfl,h3,g3⟩:=g2.cons_inv;obtain⟨x3,rfl,b3,c3⟩:=h3.fL;obtain⟨_,_,rfl,h4,g4⟩:=g3.cons_inv;obtain⟨x4,rfl,b4,c4⟩:=h4.fL;obtain⟨_,_,rfl,h5,g5⟩:=g4.cons_inv;obtain⟨x5,rfl,b5⟩:=h5.jw;obtain⟨_,_,rfl,h6,g6⟩:=g5.cons_inv;obtain⟨x6,rfl,b6⟩:=h6.jw;obtain⟨_,_,rfl,h7,g7⟩:=g6.cons_inv;obtain⟨x7,rfl,b7,c7⟩:=h7.fL;obtain⟨_,_,rfl,h8,g8⟩:=g7.cons_inv;obtain⟨x8,rfl,b8,c8⟩:=h8.fL;obtain⟨_,_,rfl,h9,g9⟩:=g8.cons_inv;obtain⟨x9,rfl,b9⟩:=h9.jw;obtain⟨_,_,rfl,Gv,g10⟩:=g9.cons_inv;obtain⟨x10,rfl⟩:=Gv.nK;obtain⟨_,_,rfl,Nr,g11⟩:=g10.cons_inv;obtain⟨x11,rfl⟩:=Nr.nK;obtain⟨_,_,rfl,JR,g12⟩:=g11.cons_inv;obtain⟨x12,rfl⟩:=JR.nK;obtain⟨_,_,rfl,h13,g13⟩:=g12.cons_inv;obtain⟨x13,rfl⟩:=h13.nK;obtain⟨_,_,rfl,h14,g14⟩:=g13.cons_inv;obtain⟨x14,rfl,b14⟩:=h14.kv;obtain⟨_,_,rfl,h15,g15⟩:=g14.cons_inv;obtain⟨x15,rfl,b15⟩:=h15.kv;obtain⟨_,_,rfl,h16,g16⟩:=g15.cons_inv;obtain⟨x16,rfl,Ld,CN⟩:=h16.fL;obtain⟨_,_,rfl,h17,g17⟩:=g16.cons_inv;obtain⟨x17,rfl,Le,D8⟩:=h17.fL;obtain⟨_,_,rfl,h18,g18⟩:=g17.cons_inv;obtain⟨x18,rfl,OP,I7⟩:=h18.fL;rw[g18.jX];exact⟨x0,x1,x2,x3,x4,x5,x6,x7,x8,x9,x10,x11,x12,x13,x14,x15,x16,x17,x18,rfl,⟨b0.1,b0.2⟩,b1,⟨b2.1,b2.2⟩,⟨b3,c3⟩,⟨b4,c4⟩,b5,b6,⟨b7,c7⟩,⟨b8,c8⟩,b9,trivial,trivial,trivial,trivial,⟨b14.1,b14.2⟩,⟨b15.1,b15.2⟩,⟨Ld,CN⟩,⟨Le,D8⟩,⟨OP,I7⟩⟩
theorem AD{B:Nat}{e:List D}{xs:List (List D)}(ok:eO B (lay 2) e)(h:.list 3 false xs∈e):xs.length<=B/\eh B 2 xs:=by
 obtain⟨x0,x1,x2,rfl,b0,b1,⟨b2,c2⟩⟩:=jc ok;simp only[ay,D.list.injEq,reduceCtorEq,gP,or_false,false_or,true_and]at h;subst h;exact⟨b2,c2⟩
theorem AB{B:Nat}{e:List D}{xs:List (List D)}(ok:eO B (lay 11) e)(h:.list 7 false xs∈e):xs.length<=B/\eh B 11 xs:=by
 obtain⟨x0,x1,x2,x3,x4,x5,x6,rfl,_,_,b2,_,_,⟨b5,c5⟩,⟨b6,c6⟩⟩:=km ok;simp only[ay,D.list.injEq,reduceCtorEq,gP,or_false,false_or,ax,false_and,true_and]at h;subst h;exact⟨b6,c6⟩
theorem uc{B:Nat}{e:List D}{xs:List (List D)}(ok:eO B (lay 12) e)(h:.list 19 false xs∈e):xs.length<=B/\eh B 12 xs:=by
 obtain⟨x0,x1,x2,x3,x4,x5,x6,x7,x8,x9,x10,x11,x12,x13,x14,x15,x16,x17,x18,rfl,_,b1,_,⟨b3,c3⟩,⟨b4,c4⟩,b5,b6,⟨b7,c7⟩,⟨b8,c8⟩,b9,_,_,_,_,_,_,⟨Ld,CN⟩,⟨Le,D8⟩,⟨OP,I7⟩⟩:=ig ok;simp only[ay,D.list.injEq,reduceCtorEq,gP,or_false,false_or,ax,false_and,true_and,and_false]at h;subst h;exact⟨OP,I7⟩
end
end Go.Proofs.YtcdjbelccndadaaGreatDoor
