/- Part of the proof: a machine over plain data, its proof, the functions of the program run on symbols, what they answer. Condition: none. -/
import Derived.Test.YtnnjajingjfjiaaGreatDoorZz13
set_option linter.unusedVariables false
set_option linter.unusedSimpArgs false
open Int renaming toNat_natCast->bW
open List renaming cons_append->au,nil_append->av,length_cons->aH,append_nil->aK,mem_cons->aL,take_length->aR,take_zero->aV,length_take->aY,sizeOf_lt_of_mem->bj,drop_zero->bm,replicate->bn,drop_length->bE,mem_cons_of_mem->bP,mem_cons_self->bQ,getElem?_append_right->cY,not_mem_nil->ei,drop_of_length_le->fN,drop_eq_getElem_cons->ub
open Nat renaming reduceEqDiff->aA,lt_irrefl->aC,zero_add->bo,sub_self->mZ
open SizeOf renaming sizeOf->aw
open Option renaming some->Z
open Bool renaming true->I,false->J
open Decidable renaming decide->Z'
namespace Go.Proofs.YtnnjajingjfjiaaGreatDoor
set_option maxRecDepth 100000
set_option maxHeartbeats 4000000
section
noncomputable abbrev G:Gf:=GF T qq
theorem C8(a b c:Int):G 74 [E a,E b,E c]=Z (0,[.bool (fO b c a)]):=by
 refine ct t74 rfl ?_;simp only[go_sem,t74];unfold fO;by_cases h:b<=a
 ·simp only[go_sem,h]
 ·simp only[go_sem,h]
theorem akS{b:Int}(h:0<=b/\b<=255):G 217 [.int .u8 b]=Z (0,[.bool (fO 97 122 b)]):=by
 refine ct t217 rfl ?_;simp only[go_sem,t217,ad9 h,C8]
theorem akT{b:Int}(h:0<=b/\b<=255):G 218 [.int .u8 b]=Z (0,[.bool (fO 48 57 b)]):=by
 refine ct t218 rfl ?_;simp only[go_sem,t218,ad9 h,C8]
theorem agc(b:Int):G 258 [.int .u8 b]=Z (0,[.bool (fO 97 122 b)]):=by
 refine ct t258 rfl ?_;simp only[go_sem,t258];unfold fO;by_cases h:97<=b
 ·simp only[go_sem,h]
 ·simp only[go_sem,h]
theorem ak6(b:Int):G 259 [.int .u8 b]=Z (0,[.bool (fO 48 57 b)]):=by
 refine ct t259 rfl ?_;simp only[go_sem,t259];unfold fO;by_cases h:48<=b
 ·simp only[go_sem,h]
 ·simp only[go_sem,h]
def C3(b:Int):Bool:=fO 97 122 b ||(fO 48 57 b ||decide (b=45))
def P5(b:Int):Bool:=fO 97 122 b ||(fO 48 57 b ||(Z' (b=95) ||(Z' (b=45) ||decide (b=46))))
theorem aoj(b:Int):G 260 [.int .u8 b]=Z (0,[.bool (C3 b)]):=by
 refine ct t260 rfl ?_;simp only[go_sem,t260,agc]
 repeat' (first|with_reducible rfl|((first|rw[gk]|rw[gp]|rw[gj]|rw[gm]);split<;>simp only[go_sem,ak6, *]))
 all_goals simp_all[C3]
theorem akU{b:Int}(h:0<=b/\b<=255):G 219 [.int .u8 b]=Z (0,[.bool (P5 b)]):=by
 refine ct t219 rfl ?_;simp only[go_sem,t219,akS h]
 repeat' (first|with_reducible rfl|((first|rw[gk]|rw[gp]|rw[gj]|rw[gm]);split<;>simp only[go_sem,akT h, *]))
 all_goals simp_all[P5]
def isName(s:z):Bool:=fO 1 16 s.size && (fO 97 122 (eB s 0) && (sw (λi=>C3 (eB s i)) 1 (s.size - 1) && !Z' (eB s (s.size - 1)=45)))
def nmS(s:z)(i:Nat):Bool:=fO 97 122 (eB s i) ||!Z' ((i:Int)=0) && (fO 48 57 (eB s i) ||decide (eB s i=45))
theorem Zq(s:z):(sw (nmS s) 0 s.size && (fO 1 16 s.size && !Z' (eB s (s.size - 1)=45)))=isName s:=by
 unfold isName;by_cases d:s.size=0
 ·have:fO 1 16 s.size=J:=by rw[d];rfl
  rw[this];simp
 ·obtain⟨n,c⟩:∃n,s.size=n+1:=⟨s.size - 1,by omega⟩
  have b:sw (nmS s) 0 s.size=(fO 97 122 (eB s 0) && sw (λi=>C3 (eB s i)) 1 (s.size - 1)):=by
   rw[c];simp only[sw,bo,Nat.add_sub_cancel];have a:nmS s 0=fO 97 122 (eB s 0):=by simp[nmS]
   rw[a,Er n 1 λj b a=>?_];have:¬j=0:=by omega
   simp[nmS,C3,this]
  rw[b];cases fO 97 122 (eB s 0)<;>cases sw (λi=>C3 (eB s i)) 1 (s.size - 1)<;>cases fO 1 16 s.size<;>simp
theorem TA{s:z}(h:1<=s.size)(a:s.size<=mg):IntKind.i64.wrap ((s.size:Int) - 1)=((s.size - 1:Nat):Int):=by
 simp only[mg]at a;rw[wrap_i64 (by omega)];omega
theorem acI{s:z}(a:s.size<=mg):G 202 [.str s]=Z (0,[.bool (isName s)]):=by
 refine ct t202 rfl ?_;simp only[go_sem,t202];have c:=rV (b:=lB G KJ) (λi=>(0,[.str s,E (i:Int)])) (nmS s) s.size (1,[.str s,E s.size,.bool J]) (0,[.bool J]) (by
  intro i d;have g:=wj d a;simp only[go_sem,bG,KJ,d,fH,C8]
  repeat' (first|with_reducible rfl|((first|rw[gk]|rw[gp]|rw[gj]|rw[gm]);split<;>simp only[go_sem,fH,C8, *]))
  all_goals simp_all[nmS]) (by simp only[go_sem,bG,KJ,aC]) s.size 0 (by omega)
 rw[n0]at c;rw[c,<- Zq];cases sw (nmS s) 0 s.size with
 |false=>simp only[go_sem]
 |true=>
  simp only[go_sem,C8];cases e:fO 1 16 (s.size:Int) with
  |false=>simp only[go_sem]
  |true=>
   have h:=(gP _ _ _).1 e;have f:=TA (s:=s) (by omega) a;simp only[go_sem,f,fH _ _ (show s.size - 1 < s.size by omega)]
theorem acK{s:z}(d:s.size<=mg):G 261 [.str s]=Z (0,[.bool (isName s)]):=by
 refine ct t261 rfl ?_;simp only[go_sem,t261];by_cases a:(s.size:Int) < 1
 ·have:fO 1 16 (s.size:Int)=J:=by simp[fO];omega
  simp only[go_sem,a,isName,this]
 by_cases g:16 < (s.size:Int)
 ·have:fO 1 16 (s.size:Int)=J:=by simp[fO];omega
  simp only[go_sem,a,g,isName,this]
 have h:fO 1 16 (s.size:Int)=I:=by simp[fO];omega
 have c:=fH s 0 (by omega);rw[n0]at c;simp only[go_sem,a,g,isName,h,c,agc];cases l:fO 97 122 (eB s 0) with
 |false=>simp only[go_sem]
 |true=>
  simp only[go_sem];have e:=rV (b:=lB G K3) (λi=>(0,[.str s,E (i:Int)])) (λi=>C3 (eB s i)) s.size (1,[.str s,E s.size,.bool J]) (0,[.bool J]) (by
   intro i f;have k:=wj f d;simp only[go_sem,bG,K3,f,fH,aoj]
   repeat' (first|with_reducible rfl|((first|rw[gk]|rw[gp]|rw[gj]|rw[gm]);split<;>simp only[go_sem, *]))
   all_goals simp_all) (by simp only[go_sem,bG,K3,aC]) (s.size - 1) 1 (by omega)
  rw[n1]at e;rw[e];cases sw (λi=>C3 (eB s i)) 1 (s.size - 1) with
  |false=>simp only[go_sem]
  |true=>
   have j:=TA (s:=s) (by omega) d;simp only[go_sem,j,fH _ _ (show s.size - 1 < s.size by omega)]
def jc(s:z):Bool:=sw (λi=>fO 32 126 (eB s i)) 0 s.size && Z' ((s.size:Int)<=40)
theorem acJ{s:z}(d:s.size<=mg):G 204 [.str s]=Z (0,[.bool (jc s)]):=by
 refine ct t204 rfl ?_;simp only[go_sem,t204];have a:=rV (b:=lB G KL) (λi=>(0,[.str s,E (i:Int)])) (λi=>fO 32 126 (eB s i)) s.size (1,[.str s,E s.size,.bool J]) (0,[.bool J]) (by
  intro i c;have e:=wj c d;simp only[go_sem,bG,KL,c,fH,C8]
  repeat' (first|with_reducible rfl|((first|rw[gk]|rw[gp]|rw[gj]|rw[gm]);split<;>simp only[go_sem, *]))
  all_goals simp_all) (by simp only[go_sem,bG,KL,aC]) s.size 0 (by omega)
 rw[n0]at a;rw[a];unfold jc;cases sw (λi=>fO 32 126 (eB s i)) 0 s.size<;>simp only[go_sem]
theorem acL{s:z}(g:s.size<=mg):G 264 [.str s]=Z (0,[.bool (jc s)]):=by
 refine ct t264 rfl ?_;simp only[go_sem,t264];have d:=rV (b:=lB G K5) (λi=>(0,[.str s,E (i:Int)])) (λi=>fO 32 126 (eB s i)) s.size (1,[.str s,E s.size,.bool J]) (0,[.bool J]) (by
  intro i a;have f:=wj a g;simp only[go_sem,bG,K5,a,fH];by_cases c:eB s i < 32
  ·have:fO 32 126 (eB s i)=J:=by simp[fO];omega
   simp only[go_sem,c,this]
  by_cases e:126 < eB s i
  ·have:fO 32 126 (eB s i)=J:=by simp[fO];omega
   simp only[go_sem,c,e,this,a,fH]
  have:fO 32 126 (eB s i)=I:=by simp[fO];omega
  simp only[go_sem,c,e,this,a,fH,f]) (by simp only[go_sem,bG,K5,aC]) s.size 0 (by omega)
 rw[n0]at d;rw[d];unfold jc;cases sw (λi=>fO 32 126 (eB s i)) 0 s.size<;>simp only[go_sem]
end
section
def Lz(s:Nat)(n r:Int):Prop:=r=-1\/(0<=r/\r+(s:Int)=n)
theorem Yk{a c:Type}{b:a->u (Sg a c)}(es:M (M D))(mk:Int->Nat->a)(neg:c)(fin:Int->c)
  (f:∀i e n,nth es i=Z e->0<=n->n<=1048576->b (mk n i)=Z (.out neg)\/∃r,0<=r/\r+(ee e:Int)=n/\b (mk n i)=Z (.go (mk r (i+1))))
  (l:∀n,b (mk n es.length)=Z (.out (fin n))):∀(m i:Nat) (n:Int),i+m=es.length->0<=n->n<=1048576->
  cm b (mk n i)=Z neg\/∃r,0<=r/\r+(oM (es.drop i):Int)=n/\cm b (mk n i)=Z (fin r)
 |0,i,n,h,d,k=>by
  obtain rfl:i=es.length:=by omega
  refine .inr ⟨n,d,?_,bg (l n)⟩;rw[bE,oM];omega
 |m+1,i,n,h,d,k=>by
  have j:i < es.length:=by omega
  have t:nth es i=Z es[i]:=cI j;have hd:es.drop i=es[i]::es.drop (i+1):=ub j;rcases f i _ n t d k with g|⟨r,p,q,g⟩
  ·exact .inl (bg g)
  ·rw[bY g,hd,oM];rcases Yk es mk neg fin f l m (i+1) r (by omega) p (by omega) with g|⟨o,s,v,g⟩
   ·exact .inl g
   ·exact .inr ⟨o,s,by omega,g⟩
theorem ym{d g:Type}{b:d->u (Sg d g)}(es:M (M D))(a:M D)(mk:Nat->M (M D)->d)(fin:M (M D)->g)
  (j:∀i e c,nth es i=Z e->nth c i=Z a->b (mk i c)=Z (.go (mk (i+1) (c.set i e))))
  (l:∀c,b (mk es.length c)=Z (.out (fin c))):cm b (mk 0 (bn es.length a))=Z (fin es):=by
 have h:=cN (b:=b) es mk (λi=>es.take i++bn (es.length - i) a) (fin es) (by
  intro i e f;have m:=bp f;have k:nth (es.take i++bn (es.length - i) a) i=Z a:=by
   rw[ef,cY (by rw[aY];omega),aY,List.getElem?_replicate,if_pos (by omega)]
  have h:=j i e _ f k;rw[Yb f]at h;exact h) (by
  have h:=l (es.take es.length++bn (es.length - es.length) a);rw[aR,mZ,List.replicate_zero,aK]at h ⊢;exact h) es.length 0 (by omega)
 rw[aV,av,Nat.sub_zero]at h;exact h
theorem sZ{k:Nat}{fl:Bool}{es:M (M D)}{i:Nat}{a ds:M D}(h:nth es i=Z a)(c:a.length=k)(hd:ds.length=k)(b:fl=I->dV ds=I) :
  aZ (.set 0) (.list k fl es::E (i:Int)::ds)=Z (.list k fl (es.set i ds)):=by
 simp only[aZ,bW,h];rw[if_pos ⟨by omega,b⟩];have:gG a 0 ds=ds:=by
  unfold gG;rw[aV,av,bo,fN (by omega),aK]
 rw[this]
theorem oU{k by_:Nat}{fl:Bool}{zs:M SK}{n:Nat}(a:n<=mg)(b:by_<=4096):aZ (.make k by_ fl zs) [E (n:Int)]=Z (.list k fl (bn n (zs.map SK.d))):=by
 simp only[aZ,bW];rw[if_pos];have:n * by_<=mg * 4096:=Nat.mul_le_mul a b;simp only[mg,room]at *;omega
theorem nK{b:Type}{f:b->M D}:∀{es:M (M D)},(∀e∈es,∃x,e=f x)->∃a:M b,es=a.map f
 |[],_=>⟨[],rfl⟩
 |e::es,h=>by
  obtain⟨x,rfl⟩:=h e bQ;obtain⟨a,rfl⟩:=nK (es:=es) λe c=>h e (bP _ c);exact⟨x::a,rfl⟩
theorem iE{k:Nat}{fl:Bool}{xs es:M (M D)}{e:M D}(b:e∈es)(a:D.list k fl xs∈e):aw xs < aw es:=by
 have d:=bj b;have c:=bj a;simp only[D.list.sizeOf_spec]at c;omega
theorem DP{ρ:M D}{i:Nat}{e:M D}(es:M SE)(h:nth ρ i=Z (.list 0 J [e])):∀n j,j+n=e.length->iY ρ (Bn i j n++es)=(iY ρ es).map (e.drop j++·)
 |0,j,b=>by
  rw[fN (by omega)];simp[Bn]
 |n+1,j,b=>by
  have a:j < e.length:=by omega
  rw[Bn,au,XB,DP es h n (j+1) (by omega),d_c,h,adC,cI a,ub a];cases iY ρ es<;>rfl
def szB(k g:Nat):ST:=c1<|.map [1,0,3]<|h_ (b_ (o_ .len [Y 0]<|o_ L2 [Y 2,Y 3]<|L_ (r_ 0 3++[Y 4]))<|d_ 3 (L_ (r_ 0 4))<|M1<|L_ (r_ 0 4))<|k_ (h_ (b_ (o_ (.el k) [Y 0,Y 2]<|o_ (.has k) [Y 4]<|c_ g (xs_ 4 0 k++[Y 1])<|L_ [Y 0,Y 6,Y 2])<|b_ (o_ L2 [Y 1,N 0]<|L_ (r_ 0 4))<|d_ 3 (z_<|L_ [N (-1)])<|M1<|L_ (r_ 0 4))<|k_ (L_ [Y 0])<|c1<|M1<|o_ A2 [Y 2,N 1]<|L_ [Y 0,Y 1,Y 4])<|c1<|.map [2]<|L_ (r_ 0 4)
def szT(b:ST):ST:=z_<|b_ (L_ [Y 0,Y 1])<|b_ (o_ .len [Y 0]<|o_ S2 [Y 1,Y 2]<|L_ [Y 0,Y 3])<|h_ (b_ (o_ L2 [Y 1,N 0]<|L_ (r_ 0 3))<|d_ 2 (z_<|L_ [N (-1)])<|M1<|L_ (r_ 0 3))<|k_ (L_ [Y 0])<|c1<|h_ (b_ (L_ [Y 0,Y 1,N 0])<|.loop 0 (r_ 0 3) b)<|k_ (L_ [Y 0])<|c1<|z_<|L_ [Y 1]
def eqB(k g:Nat):ST:=c1<|.map [1,0,3]<|h_ (b_ (o_ .len [Y 0]<|o_ L2 [Y 2,Y 3]<|L_ (r_ 0 3++[Y 4]))<|d_ 3 (L_ (r_ 0 4))<|M1<|L_ (r_ 0 4))<|k_ (h_ (b_ (o_ (.el k) [Y 0,Y 2]<|o_ (.has k) [Y 4]<|o_ (.el k) [Y 1,Y 2]<|o_ (.has k) [Y 6]<|c_ g (xs_ 4 0 k++xs_ 6 0 k)<|o_ .not [Y 8]<|L_ (r_ 0 3++[Y 9]))<|d_ 3 (z_<|L_ [B J])<|M1<|L_ (r_ 0 4))<|k_ (L_ [Y 0])<|c1<|M1<|o_ A2 [Y 2,N 1]<|L_ [Y 0,Y 1,Y 4])<|c1<|.map [2]<|L_ (r_ 0 4)
def eqT(b:ST):ST:=z_<|b_ (L_ [Y 0,Y 1])<|h_ (b_ (o_ .len [Y 0]<|o_ .len [Y 1]<|o_ N2 [Y 2,Y 3]<|L_ [Y 0,Y 1,Y 4])<|d_ 2 (z_<|L_ [B J])<|M1<|L_ (r_ 0 3))<|k_ (L_ [Y 0])<|c1<|h_ (b_ (L_ [Y 0,Y 1,N 0])<|.loop 0 (r_ 0 3) b)<|k_ (L_ [Y 0])<|c1<|z_<|L_ [B I]
section
variable {F:Gf} {k g:Nat} {fl:Bool} {es:M (M D)}
theorem sf(hB:es.length<=maxLen)(m:∀e∈es,e.length=k)(A:∀e∈es,∀l:Int,0<=l->l<=1048576->∃r,F g (e++[E l])=Z (0,[E r])/\Lz (ee e) l r){l:Int}(v:0<=l)(t:l<=1048576) :
  ∃r,eV F (szT (szB k g)) 0 [.list k fl es,E l]=Z (0,[E r])/\Lz (es.length+oM es) l r:=by
 have w:IntKind.i64.wrap (l - (es.length:Int))=l - (es.length:Int):=wrap_i64 (by simp only[maxLen]at hB;omega);by_cases c:l - (es.length:Int) < 0
 ·exact⟨-1,by simp only[go_sem,szT,w,c],.inl rfl⟩
 have y:es.length<=mg:=by simp only[mg];omega
 have s:=Yk (b:=lB F (szB k g)) es (λn i=>(0,[.list k fl es,E n,E (i:Int)])) (0,[E (-1)]) (λn=>(1,[.list k fl es,E n,E es.length,.bool J])) (by
  intro i e n a v t;have d:=bp a;have x:=wj d y;obtain⟨r,f,h⟩:=A e (bc a) n v t;have o:aZ (.has k) [.list 0 J [e]]=Z (.bool J):=by rw[zb,if_pos (Nat.le_of_eq (m e (bc a)).symm)]
  have j:iY [.list k fl es,E n,E (i:Int),.bool I,.list 0 J [e],.bool J] (xs_ 4 0 k++[Y 1])=Z (e++[E n]):=DP _ rfl k 0 (by rw[bo,m e (bc a)]);rcases h with rfl|⟨p,q⟩
  ·exact .inl (by simp only[go_sem,bG,szB,d,a,o,j,f])
  ·have c:¬r < 0:=by omega
   exact .inr ⟨r,p,q,by simp only[go_sem,bG,szB,d,a,o,j,f,x,c]⟩) (by
  intro n;simp only[go_sem,bG,szB,aC]) es.length 0 (l - (es.length:Int)) (by omega) (by omega) (by omega)
 rw[n0]at s;rcases s with g|⟨r,p,q,g⟩
 ·exact⟨-1,by simp only[go_sem,szT,w,c,g],.inl rfl⟩
 ·rw[bm]at q;exact⟨r,by simp only[go_sem,szT,w,c,g],.inr ⟨p,by omega⟩⟩
theorem qa(n:es.length<=mg)(c:∀e∈es,e.length=k)(p:∀e∈es,F g (e++e)=Z (0,[.bool I])) :
  eV F (eqT (eqB k g)) 0 [.list k fl es,.list k fl es]=Z (0,[.bool I]):=by
 have h:=nb (b:=lB F (eqB k g)) es (λi=>(0,[.list k fl es,.list k fl es,E (i:Int)])) (λ_=>I) (1,[.list k fl es,.list k fl es,E es.length,.bool J]) (0,[.bool J]) (by
  intro i e a;have d:=bp a;have m:=wj d n;have f:=p e (bc a);have o:aZ (.has k) [.list 0 J [e]]=Z (.bool J):=by rw[zb,if_pos (Nat.le_of_eq (c e (bc a)).symm)]
  have l:iY [.list k fl es,.list k fl es,E (i:Int),.bool I,.list 0 J [e],.bool J,.list 0 J [e],.bool J] (xs_ 4 0 k++xs_ 6 0 k)=Z (e++e):=by
   have j:=DP (ρ:=[.list k fl es,.list k fl es,E (i:Int),.bool I,.list 0 J [e],.bool J,.list 0 J [e],.bool J]) (i:=6) [] rfl k 0 (by rw[bo,c e (bc a)]);rw[aK]at j;rw[DP (e:=e) _ rfl k 0 (by rw[bo,c e (bc a)]),j];simp[adA]
  simp only[go_sem,bG,eqB,d,a,o,l,f,m,if_true]) (by simp only[go_sem,bG,eqB,aC])
 rw[n0]at h;have q:(es.all λ_=>I)=I:=by simp
 rw[q]at h;simp only[go_sem]at h;simp only[go_sem,eqT,h]
end
theorem ji{B:Nat}:∀{a:M Ty} {e:M D},eu B a e->e.length=a.length
 |[],e,h=>by cases e with
  |nil=>rfl
  |cons x e=>simp[eu]at h
 |t::a,e,h=>by
  obtain⟨x,c,rfl,_,b⟩:=h.cons_inv;rw[aH,aH,ji b]
end
section
theorem xy{B:Nat}{e:M D}(h:eu B (lay 0) e):∃a,e=[.str a]/\(a.size<=maxLen):=by
 obtain⟨_,_,rfl,b,c⟩:=h.cons_inv;obtain⟨a,rfl,d⟩:=b.jl;rw[c.gQ];exact⟨a,rfl,d⟩
theorem mK{B:Nat}{e:M D}(h:eu B (lay 2) e):∃c b a,e=[.str c,.str b,.list 3 J a]/\(c.size<=maxLen)/\(b.size<=maxLen)/\(a.length<=B/\dw B 2 a):=by
 obtain⟨_,_,rfl,g,k⟩:=h.cons_inv;obtain⟨c,rfl,o⟩:=g.jl;obtain⟨_,_,rfl,f,j⟩:=k.cons_inv;obtain⟨b,rfl,n⟩:=f.jl;obtain⟨_,_,rfl,d,i⟩:=j.cons_inv;obtain⟨a,rfl,m,l⟩:=d.ek;rw[i.gQ];exact⟨c,b,a,rfl,o,n,⟨m,l⟩⟩
theorem mI{B:Nat}{e:M D}(h:eu B (lay 3) e):∃b d c a,e=[E b,.str d,.str c,.list 4 J a]/\(-9223372036854775808<=b/\b<=9223372036854775807)/\(d.size<=maxLen)/\(c.size<=maxLen)/\(a.length<=B/\dw B 3 a):=by
 obtain⟨_,_,rfl,k,o⟩:=h.cons_inv;obtain⟨b,rfl,f⟩:=k.gC;obtain⟨_,_,rfl,j,n⟩:=o.cons_inv;obtain⟨d,rfl,s⟩:=j.jl;obtain⟨_,_,rfl,i,m⟩:=n.cons_inv;obtain⟨c,rfl,r⟩:=i.jl;obtain⟨_,_,rfl,g,l⟩:=m.cons_inv;obtain⟨a,rfl,q,p⟩:=g.ek;rw[l.gQ];exact⟨b,d,c,a,rfl,⟨f.1,f.2⟩,s,r,⟨q,p⟩⟩
theorem oC{B:Nat}{e:M D}(h:eu B (lay 4) e):∃c b a,e=[E c,E b,.list 4 J a]/\(-9223372036854775808<=c/\c<=9223372036854775807)/\(-9223372036854775808<=b/\b<=9223372036854775807)/\(a.length<=B/\dw B 3 a):=by
 obtain⟨_,_,rfl,j,m⟩:=h.cons_inv;obtain⟨c,rfl,f⟩:=j.gC;obtain⟨_,_,rfl,i,l⟩:=m.cons_inv;obtain⟨b,rfl,d⟩:=i.gC;obtain⟨_,_,rfl,g,k⟩:=l.cons_inv;obtain⟨a,rfl,o,n⟩:=g.ek;rw[k.gQ];exact⟨c,b,a,rfl,⟨f.1,f.2⟩,⟨d.1,d.2⟩,⟨o,n⟩⟩
theorem o9{B:Nat}{e:M D}(h:eu B (lay 5) e):∃b a,e=[.list 3 J b,.list 3 J a]/\(b.length<=B/\dw B 2 b)/\(a.length<=B/\dw B 4 a):=by
 obtain⟨_,_,rfl,d,g⟩:=h.cons_inv;obtain⟨b,rfl,k,i⟩:=d.ek;obtain⟨_,_,rfl,c,f⟩:=g.cons_inv;obtain⟨a,rfl,j,c1⟩:=c.ek;rw[f.gQ];exact⟨b,a,rfl,⟨k,i⟩,⟨j,c1⟩⟩
theorem oD{B:Nat}{e:M D}(h:eu B (lay 6) e):∃b a,e=[E b,E a]/\(-9223372036854775808<=b/\b<=9223372036854775807)/\(-9223372036854775808<=a/\a<=9223372036854775807):=by
 obtain⟨_,_,rfl,g,j⟩:=h.cons_inv;obtain⟨b,rfl,d⟩:=g.gC;obtain⟨_,_,rfl,f,i⟩:=j.cons_inv;obtain⟨a,rfl,c⟩:=f.gC;rw[i.gQ];exact⟨b,a,rfl,⟨d.1,d.2⟩,⟨c.1,c.2⟩⟩
theorem Ff{B:Nat}{e:M D}(h:eu B (lay 7) e):∃c b a f d,e=[E c,.list 2 I b,.list 1 I a,.str f,.str d]/\(-9223372036854775808<=c/\c<=9223372036854775807)/\(b.length<=B/\dw B 6 b)/\(a.length<=B/\dw B 0 a)/\(f.size<=maxLen)/\(d.size<=maxLen):=by
 obtain⟨_,_,rfl,m,r⟩:=h.cons_inv;obtain⟨c,rfl,g⟩:=m.gC;obtain⟨_,_,rfl,l,q⟩:=r.cons_inv;obtain⟨b,rfl,x,c1⟩:=l.ek;obtain⟨_,_,rfl,k,p⟩:=q.cons_inv;obtain⟨a,rfl,w,s⟩:=k.ek;obtain⟨_,_,rfl,j,o⟩:=p.cons_inv;obtain⟨f,rfl,v⟩:=j.jl;obtain⟨_,_,rfl,i,n⟩:=o.cons_inv;obtain⟨d,rfl,t⟩:=i.jl;rw[n.gQ];exact⟨c,b,a,f,d,rfl,⟨g.1,g.2⟩,⟨x,c1⟩,⟨w,s⟩,v,t⟩
theorem qU{B:Nat}{e:M D}(h:eu B (lay 8) e):∃b a,e=[.str b,.str a]/\(b.size<=maxLen)/\(a.size<=maxLen):=by
 obtain⟨_,_,rfl,d,g⟩:=h.cons_inv;obtain⟨b,rfl,j⟩:=d.jl;obtain⟨_,_,rfl,c,f⟩:=g.cons_inv;obtain⟨a,rfl,i⟩:=c.jl;rw[f.gQ];exact⟨b,a,rfl,j,i⟩
theorem qT{B:Nat}{e:M D}(h:eu B (lay 9) e):∃b a,e=[.str b,.list 2 I a]/\(b.size<=maxLen)/\(a.length<=B/\dw B 8 a):=by
 obtain⟨_,_,rfl,d,g⟩:=h.cons_inv;obtain⟨b,rfl,j⟩:=d.jl;obtain⟨_,_,rfl,c,f⟩:=g.cons_inv;obtain⟨a,rfl,i,c1⟩:=c.ek;rw[f.gQ];exact⟨b,a,rfl,j,⟨i,c1⟩⟩
theorem Fe{B:Nat}{e:M D}(h:eu B (lay 10) e):∃c b a,e=[.bool c,E b,.list 2 J a]/\(True)/\(-9223372036854775808<=b/\b<=9223372036854775807)/\(a.length<=B/\dw B 9 a):=by
 obtain⟨_,_,rfl,i,l⟩:=h.cons_inv;obtain⟨c,rfl⟩:=i.nJ;obtain⟨_,_,rfl,g,k⟩:=l.cons_inv;obtain⟨b,rfl,d⟩:=g.gC;obtain⟨_,_,rfl,f,j⟩:=k.cons_inv;obtain⟨a,rfl,n,m⟩:=f.ek;rw[j.gQ];exact⟨c,b,a,rfl,trivial,⟨d.1,d.2⟩,⟨n,m⟩⟩
theorem mJ{B:Nat}{e:M D}(h:eu B (lay 11) e):∃f d g i c b a,e=[E f,E d,.str g,.bool i,E c,.list 2 J b,.list 7 J a]/\(-9223372036854775808<=f/\f<=9223372036854775807)/\(-9223372036854775808<=d/\d<=9223372036854775807)/\(g.size<=maxLen)/\(True)/\(-9223372036854775808<=c/\c<=9223372036854775807)/\(b.length<=B/\dw B 9 b)/\(a.length<=B/\dw B 11 a):=by
 obtain⟨_,_,rfl,s,C⟩:=h.cons_inv;obtain⟨f,rfl,l⟩:=s.gC;obtain⟨_,_,rfl,r,A⟩:=C.cons_inv;obtain⟨d,rfl,k⟩:=r.gC;obtain⟨_,_,rfl,q,y⟩:=A.cons_inv;obtain⟨g,rfl,L⟩:=q.jl;obtain⟨_,_,rfl,p,x⟩:=y.cons_inv;obtain⟨i,rfl⟩:=p.nJ;obtain⟨_,_,rfl,o,w⟩:=x.cons_inv;obtain⟨c,rfl,j⟩:=o.gC;obtain⟨_,_,rfl,n,v⟩:=w.cons_inv;obtain⟨b,rfl,K,G⟩:=n.ek;obtain⟨_,_,rfl,m,t⟩:=v.cons_inv;obtain⟨a,rfl,H,F⟩:=m.ek;rw[t.gQ];exact⟨f,d,g,i,c,b,a,rfl,⟨l.1,l.2⟩,⟨k.1,k.2⟩,L,trivial,⟨j.1,j.2⟩,⟨K,G⟩,⟨H,F⟩⟩
theorem jM{B:Nat}{e:M D}(h:eu B (lay 12) e):∃q x p o n w v m l t k j i g f d c b a,e=[E q,.str x,E p,.list 2 I o,.list 1 I n,.str w,.str v,.list 1 I m,.list 1 I l,.str t,.bool k,.bool j,.bool i,.bool g,E f,E d,.list 7 J c,.list 7 J b,.list 19 J a]/\(-9223372036854775808<=q/\q<=9223372036854775807)/\(x.size<=maxLen)/\(-9223372036854775808<=p/\p<=9223372036854775807)/\(o.length<=B/\dw B 6 o)/\(n.length<=B/\dw B 0 n)/\(w.size<=maxLen)/\(v.size<=maxLen)/\(m.length<=B/\dw B 0 m)/\(l.length<=B/\dw B 0 l)/\(t.size<=maxLen)/\(True)/\(True)/\(True)/\(True)/\(-9223372036854775808<=f/\f<=9223372036854775807)/\(-9223372036854775808<=d/\d<=9223372036854775807)/\(c.length<=B/\dw B 11 c)/\(b.length<=B/\dw B 11 b)/\(a.length<=B/\dw B 12 a):=by
 obtain⟨_,_,rfl,h0,g0⟩:=h.cons_inv;obtain⟨q,rfl,U⟩:=h0.gC;obtain⟨_,_,rfl,h1,g1⟩:=g0.cons_inv;obtain⟨x,rfl,b1⟩:=h1.jl;obtain⟨_,_,rfl,h2,g2⟩:=g1.cons_inv;obtain⟨p,rfl,T⟩:=h2.gC;obtain⟨_,_,rfl,h3,g3⟩:=g2.cons_inv;obtain⟨o,rfl,b3,c3⟩:=h3.ek;obtain⟨_,_,rfl,h4,g4⟩:=g3.cons_inv;obtain⟨n,rfl,b4,c4⟩:=h4.ek;obtain⟨_,_,rfl,h5,g5⟩:=g4.cons_inv;obtain⟨w,rfl,b5⟩:=h5.jl;obtain⟨_,_,rfl,h6,g6⟩:=g5.cons_inv;obtain⟨v,rfl,b6⟩:=h6.jl;obtain⟨_,_,rfl,Y,g7⟩:=g6.cons_inv;obtain⟨m,rfl,b7,c7⟩:=Y.ek;obtain⟨_,_,rfl,X,g8⟩:=g7.cons_inv;obtain⟨l,rfl,b8,c8⟩:=X.ek;obtain⟨_,_,rfl,W,g9⟩:=g8.cons_inv;obtain⟨t,rfl,b9⟩:=W.jl;obtain⟨_,_,rfl,Mx,S⟩:=g9.cons_inv;obtain⟨k,rfl⟩:=Mx.nJ;obtain⟨_,_,rfl,UO,R⟩:=S.cons_inv;obtain⟨j,rfl⟩:=UO.nJ;obtain⟨_,_,rfl,V,Q⟩:=R.cons_inv;obtain⟨i,rfl⟩:=V.nJ;obtain⟨_,_,rfl,H,P⟩:=Q.cons_inv;obtain⟨g,rfl⟩:=H.nJ;obtain⟨_,_,rfl,G,N⟩:=P.cons_inv;obtain⟨f,rfl,s⟩:=G.gC;obtain⟨_,_,rfl,F,L⟩:=N.cons_inv;obtain⟨d,rfl,r⟩:=F.gC;obtain⟨_,_,rfl,C,K⟩:=L.cons_inv;obtain⟨c,rfl,PU,HJ⟩:=C.ek;obtain⟨_,_,rfl,A,g17⟩:=K.cons_inv;obtain⟨b,rfl,PV,Is⟩:=A.ek;obtain⟨_,_,rfl,y,g18⟩:=g17.cons_inv;obtain⟨a,rfl,Uu,MX⟩:=y.ek;rw[g18.gQ];exact⟨q,x,p,o,n,w,v,m,l,t,k,j,i,g,f,d,c,b,a,rfl,⟨U.1,U.2⟩,b1,⟨T.1,T.2⟩,⟨b3,c3⟩,⟨b4,c4⟩,b5,b6,⟨b7,c7⟩,⟨b8,c8⟩,b9,trivial,trivial,trivial,trivial,⟨s.1,s.2⟩,⟨r.1,r.2⟩,⟨PU,HJ⟩,⟨PV,Is⟩,⟨Uu,MX⟩⟩
theorem lT{B:Nat}{e:M D}(h:eu B (lay 13) e):∃c b a,e=[.list 3 J c,E b,E a]/\(c.length<=B/\dw B 2 c)/\(-9223372036854775808<=b/\b<=9223372036854775807)/\(-9223372036854775808<=a/\a<=9223372036854775807):=by
 obtain⟨_,_,rfl,j,m⟩:=h.cons_inv;obtain⟨c,rfl,o,n⟩:=j.ek;obtain⟨_,_,rfl,i,l⟩:=m.cons_inv;obtain⟨b,rfl,f⟩:=i.gC;obtain⟨_,_,rfl,g,k⟩:=l.cons_inv;obtain⟨a,rfl,d⟩:=g.gC;rw[k.gQ];exact⟨c,b,a,rfl,⟨o,n⟩,⟨f.1,f.2⟩,⟨d.1,d.2⟩⟩
theorem pa{B:Nat}{e:M D}(h:eu B (lay 14) e):∃f c b d a,e=[.bool f,E c,E b,.str d,.list 3 J a]/\(True)/\(-9223372036854775808<=c/\c<=9223372036854775807)/\(-9223372036854775808<=b/\b<=9223372036854775807)/\(d.size<=maxLen)/\(a.length<=B/\dw B 2 a):=by
 obtain⟨_,_,rfl,n,s⟩:=h.cons_inv;obtain⟨f,rfl⟩:=n.nJ;obtain⟨_,_,rfl,m,r⟩:=s.cons_inv;obtain⟨c,rfl,i⟩:=m.gC;obtain⟨_,_,rfl,l,q⟩:=r.cons_inv;obtain⟨b,rfl,g⟩:=l.gC;obtain⟨_,_,rfl,k,p⟩:=q.cons_inv;obtain⟨d,rfl,w⟩:=k.jl;obtain⟨_,_,rfl,j,o⟩:=p.cons_inv;obtain⟨a,rfl,v,t⟩:=j.ek;rw[o.gQ];exact⟨f,c,b,d,a,rfl,trivial,⟨i.1,i.2⟩,⟨g.1,g.2⟩,w,⟨v,t⟩⟩
theorem qx{B:Nat}{e:M D}(h:eu B (lay 15) e):∃j i g f d l c b k a,e=[.list 19 J j,.list 3 J i,.list 3 J g,E f,.list 3 J d,.bool l,E c,E b,.str k,.list 3 J a]/\(j.length<=B/\dw B 12 j)/\(i.length<=B/\dw B 2 i)/\(g.length<=B/\dw B 2 g)/\(-9223372036854775808<=f/\f<=9223372036854775807)/\(d.length<=B/\dw B 13 d)/\(True)/\(-9223372036854775808<=c/\c<=9223372036854775807)/\(-9223372036854775808<=b/\b<=9223372036854775807)/\(k.size<=maxLen)/\(a.length<=B/\dw B 2 a):=by
 obtain⟨_,_,rfl,A,R⟩:=h.cons_inv;obtain⟨j,rfl,b0,V⟩:=A.ek;obtain⟨_,_,rfl,y,Q⟩:=R.cons_inv;obtain⟨i,rfl,b1,c1⟩:=y.ek;obtain⟨_,_,rfl,x,P⟩:=Q.cons_inv;obtain⟨g,rfl,b2,U⟩:=x.ek;obtain⟨_,_,rfl,w,N⟩:=P.cons_inv;obtain⟨f,rfl,o⟩:=w.gC;obtain⟨_,_,rfl,v,L⟩:=N.cons_inv;obtain⟨d,rfl,Y,T⟩:=v.ek;obtain⟨_,_,rfl,t,K⟩:=L.cons_inv;obtain⟨l,rfl⟩:=t.nJ;obtain⟨_,_,rfl,s,H⟩:=K.cons_inv;obtain⟨c,rfl,n⟩:=s.gC;obtain⟨_,_,rfl,r,G⟩:=H.cons_inv;obtain⟨b,rfl,m⟩:=r.gC;obtain⟨_,_,rfl,q,F⟩:=G.cons_inv;obtain⟨k,rfl,X⟩:=q.jl;obtain⟨_,_,rfl,p,C⟩:=F.cons_inv;obtain⟨a,rfl,W,S⟩:=p.ek;rw[C.gQ];exact⟨j,i,g,f,d,l,c,b,k,a,rfl,⟨b0,V⟩,⟨b1,c1⟩,⟨b2,U⟩,⟨o.1,o.2⟩,⟨Y,T⟩,trivial,⟨n.1,n.2⟩,⟨m.1,m.2⟩,X,⟨W,S⟩⟩
theorem Fv{B:Nat}{e:M D}{a:M (M D)}(ok:eu B (lay 2) e)(h:.list 3 J a∈e):a.length<=B/\dw B 2 a:=by
 obtain⟨g,f,d,rfl,j,i,⟨c,b⟩⟩:=mK ok;simp only[aL,D.list.injEq,reduceCtorEq,ei,or_false,false_or,true_and]at h;subst h;exact⟨c,b⟩
theorem Ft{B:Nat}{e:M D}{a:M (M D)}(ok:eu B (lay 3) e)(h:.list 4 J a∈e):a.length<=B/\dw B 3 a:=by
 obtain⟨i,g,f,d,rfl,_,k,j,⟨c,b⟩⟩:=mI ok;simp only[aL,D.list.injEq,reduceCtorEq,ei,or_false,false_or,true_and]at h;subst h;exact⟨c,b⟩
theorem Fu{B:Nat}{e:M D}{a:M (M D)}(ok:eu B (lay 11) e)(h:.list 7 J a∈e):a.length<=B/\dw B 11 a:=by
 obtain⟨l,k,j,i,g,f,d,rfl,_,_,o,_,_,⟨n,m⟩,⟨c,b⟩⟩:=mJ ok;simp only[aL,D.list.injEq,reduceCtorEq,ei,or_false,false_or,aA,false_and,true_and]at h;subst h;exact⟨c,b⟩
theorem yO{B:Nat}{e:M D}{a:M (M D)}(ok:eu B (lay 12) e)(h:.list 19 J a∈e):a.length<=B/\dw B 12 a:=by
 obtain⟨y,x,w,v,t,s,r,q,p,o,l,k,j,i,g,f,d,c,b,rfl,_,S,_,⟨R,G⟩,⟨Q,F⟩,P,N,⟨L,C⟩,⟨K,A⟩,H,_,_,_,_,_,_,⟨U,W⟩,⟨T,V⟩,⟨m,n⟩⟩:=jM ok;simp only[aL,D.list.injEq,reduceCtorEq,ei,or_false,false_or,aA,false_and,true_and,and_false]at h;subst h;exact⟨m,n⟩
end
end Go.Proofs.YtnnjajingjfjiaaGreatDoor
