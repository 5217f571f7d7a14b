/- Part of the proof: a machine over plain data, its proof, the functions of the program run on symbols, what they answer. Condition: none. -/
import Derived.Test.YtgfcijiikgjbcaaGreatDoorZz13
set_option linter.unusedVariables false
set_option linter.unusedSimpArgs false
open Int renaming toNat_natCast->cd
open List renaming cons_append->au,nil_append->av,length_cons->aG,mem_cons->aI,append_nil->aJ,replicate->aY,sizeOf_lt_of_mem->ba,length_take->bj,take_length->bo,drop_zero->br,take_zero->bE,drop_length->bJ,mem_cons_self->bQ,mem_cons_of_mem->bT,getElem?_append_right->dw,drop_of_length_le->fP,not_mem_nil->fR,drop_eq_getElem_cons->sQ
open Nat renaming lt_irrefl->aB,reduceEqDiff->aN,zero_add->bu,sub_self->oF
open SizeOf renaming sizeOf->aw
open Option renaming some->Z
open Bool renaming true->I,false->J
open Decidable renaming decide->Z'
namespace Go.Proofs.YtgfcijiikgjbcaaGreatDoor
set_option maxRecDepth 100000
set_option maxHeartbeats 4000000
section
noncomputable abbrev G:Gf:=GF T xf
theorem mj(a b c:Int):G 74 [E a,E b,E c]=Z (0,[.bool (fS b c a)]):=by
 refine cN t74 rfl ?_;simp only[go_sem,t74];unfold fS;by_cases h:b<=a
 ·simp only[go_sem,h]
 ·simp only[go_sem,h]
theorem adP{b:Int}(h:0<=b/\b<=255):G 217 [.int .u8 b]=Z (0,[.bool (fS 97 122 b)]):=by
 refine cN t217 rfl ?_;simp only[go_sem,t217,abZ h,mj]
theorem adQ{b:Int}(h:0<=b/\b<=255):G 218 [.int .u8 b]=Z (0,[.bool (fS 48 57 b)]):=by
 refine cN t218 rfl ?_;simp only[go_sem,t218,abZ h,mj]
theorem aaM(b:Int):G 258 [.int .u8 b]=Z (0,[.bool (fS 97 122 b)]):=by
 refine cN t258 rfl ?_;simp only[go_sem,t258];unfold fS;by_cases h:97<=b
 ·simp only[go_sem,h]
 ·simp only[go_sem,h]
theorem ad4(b:Int):G 259 [.int .u8 b]=Z (0,[.bool (fS 48 57 b)]):=by
 refine cN t259 rfl ?_;simp only[go_sem,t259];unfold fS;by_cases h:48<=b
 ·simp only[go_sem,h]
 ·simp only[go_sem,h]
def BO(b:Int):Bool:=fS 97 122 b ||(fS 48 57 b ||decide (b=45))
def Nx(b:Int):Bool:=fS 97 122 b ||(fS 48 57 b ||(Z' (b=95) ||(Z' (b=45) ||decide (b=46))))
theorem ahU(b:Int):G 260 [.int .u8 b]=Z (0,[.bool (BO b)]):=by
 refine cN t260 rfl ?_;simp only[go_sem,t260,aaM,ad4]
 repeat' (first|with_reducible rfl|((first|rw[gA]|rw[gC]|rw[gz]|rw[gB]);split<;>simp only[go_sem,aaM,ad4, *]))
 all_goals simp_all[BO]
theorem ahL{b:Int}(h:0<=b/\b<=255):G 219 [.int .u8 b]=Z (0,[.bool (Nx b)]):=by
 refine cN t219 rfl ?_;simp only[go_sem,t219,adP h,adQ h]
 repeat' (first|with_reducible rfl|((first|rw[gA]|rw[gC]|rw[gz]|rw[gB]);split<;>simp only[go_sem,adP h,adQ h, *]))
 all_goals simp_all[Nx]
def isName(s:z):Bool:=fS 1 16 s.size && (fS 97 122 (eA s 0) && (rB (λi=>BO (eA s i)) 1 (s.size - 1) && !Z' (eA s (s.size - 1)=45)))
def nmS(s:z)(i:Nat):Bool:=fS 97 122 (eA s i) ||!Z' ((i:Int)=0) && (fS 48 57 (eA s i) ||decide (eA s i=45))
theorem WN(s:z):(rB (nmS s) 0 s.size && (fS 1 16 s.size && !Z' (eA s (s.size - 1)=45)))=isName s:=by
 unfold isName;by_cases d:s.size=0
 ·have:fS 1 16 s.size=J:=by rw[d];rfl
  rw[this];simp
 ·obtain⟨n,c⟩:∃n,s.size=n+1:=⟨s.size - 1,by omega⟩
  have b:rB (nmS s) 0 s.size=(fS 97 122 (eA s 0) && rB (λi=>BO (eA s i)) 1 (s.size - 1)):=by
   rw[c];simp only[rB,bu,Nat.add_sub_cancel];have a:nmS s 0=fS 97 122 (eA s 0):=by simp[nmS]
   rw[a,C2 n 1 λj b a=>?_];have:¬j=0:=by omega
   simp[nmS,BO,this]
  rw[b];cases fS 97 122 (eA s 0)<;>cases rB (λi=>BO (eA s i)) 1 (s.size - 1)<;>cases fS 1 16 s.size<;>simp
theorem Qz{s:z}(h:1<=s.size)(a:s.size<=mg):IntKind.i64.wrap ((s.size:Int) - 1)=((s.size - 1:Nat):Int):=by
 simp only[mg]at a;rw[wrap_i64 (by omega)];omega
theorem aaJ{s:z}(d:s.size<=mg):G 202 [.str s]=Z (0,[.bool (isName s)]):=by
 refine cN t202 rfl ?_;simp only[go_sem,t202];have e:=qV (b:=lB G I0) (λi=>(0,[.str s,E (i:Int)])) (nmS s) s.size (1,[.str s,E s.size,.bool J]) (0,[.bool J]) (by
  intro i a;have g:=wj a d;simp only[go_sem,bK,I0,a,fF,mj]
  repeat' (first|with_reducible rfl|((first|rw[gA]|rw[gC]|rw[gz]|rw[gB]);split<;>simp only[go_sem,a,fF,mj, *]))
  all_goals simp_all[nmS]) (by simp only[go_sem,bK,I0,aB]) s.size 0 (by omega)
 rw[n0]at e;rw[e,<- WN];cases rB (nmS s) 0 s.size with
 |false=>simp only[go_sem]
 |true=>
  simp only[go_sem,mj];cases c:fS 1 16 (s.size:Int) with
  |false=>simp only[go_sem,c]
  |true=>
   have h:=(gZ _ _ _).1 c;have f:=Qz (s:=s) (by omega) d;simp only[go_sem,c,f,fF _ _ (show s.size - 1 < s.size by omega)]
theorem aaN{s:z}(e:s.size<=mg):G 261 [.str s]=Z (0,[.bool (isName s)]):=by
 refine cN t261 rfl ?_;simp only[go_sem,t261];by_cases c:(s.size:Int) < 1
 ·have:fS 1 16 (s.size:Int)=J:=by simp[fS];omega
  simp only[go_sem,c,isName,this]
 by_cases h:16 < (s.size:Int)
 ·have:fS 1 16 (s.size:Int)=J:=by simp[fS];omega
  simp only[go_sem,c,h,isName,this]
 have j:fS 1 16 (s.size:Int)=I:=by simp[fS];omega
 have d:=fF s 0 (by omega);rw[n0]at d;simp only[go_sem,c,h,isName,j,d,aaM];cases g:fS 97 122 (eA s 0) with
 |false=>simp only[go_sem,g]
 |true=>
  simp only[go_sem,g];have f:=qV (b:=lB G Je) (λi=>(0,[.str s,E (i:Int)])) (λi=>BO (eA s i)) s.size (1,[.str s,E s.size,.bool J]) (0,[.bool J]) (by
   intro i a;have l:=wj a e;simp only[go_sem,bK,Je,a,fF,ahU]
   repeat' (first|with_reducible rfl|((first|rw[gA]|rw[gC]|rw[gz]|rw[gB]);split<;>simp only[go_sem,a,fF,ahU, *]))
   all_goals simp_all) (by simp only[go_sem,bK,Je,aB]) (s.size - 1) 1 (by omega)
  rw[n1]at f;rw[f];cases rB (λi=>BO (eA s i)) 1 (s.size - 1) with
  |false=>simp only[go_sem]
  |true=>
   have k:=Qz (s:=s) (by omega) e;simp only[go_sem,k,fF _ _ (show s.size - 1 < s.size by omega)]
def jh(s:z):Bool:=rB (λi=>fS 32 126 (eA s i)) 0 s.size && Z' ((s.size:Int)<=40)
theorem aaK{s:z}(d:s.size<=mg):G 204 [.str s]=Z (0,[.bool (jh s)]):=by
 refine cN t204 rfl ?_;simp only[go_sem,t204];have c:=qV (b:=lB G I1) (λi=>(0,[.str s,E (i:Int)])) (λi=>fS 32 126 (eA s i)) s.size (1,[.str s,E s.size,.bool J]) (0,[.bool J]) (by
  intro i a;have e:=wj a d;simp only[go_sem,bK,I1,a,fF,mj]
  repeat' (first|with_reducible rfl|((first|rw[gA]|rw[gC]|rw[gz]|rw[gB]);split<;>simp only[go_sem,a,fF,mj, *]))
  all_goals simp_all) (by simp only[go_sem,bK,I1,aB]) s.size 0 (by omega)
 rw[n0]at c;rw[c];unfold jh;cases rB (λi=>fS 32 126 (eA s i)) 0 s.size<;>simp only[go_sem]
theorem aaO{s:z}(g:s.size<=mg):G 264 [.str s]=Z (0,[.bool (jh s)]):=by
 refine cN t264 rfl ?_;simp only[go_sem,t264];have d:=qV (b:=lB G Jf) (λi=>(0,[.str s,E (i:Int)])) (λi=>fS 32 126 (eA s i)) s.size (1,[.str s,E s.size,.bool J]) (0,[.bool J]) (by
  intro i a;have f:=wj a g;simp only[go_sem,bK,Jf,a,fF];by_cases c:eA s i < 32
  ·have:fS 32 126 (eA s i)=J:=by simp[fS];omega
   simp only[go_sem,c,this]
  by_cases e:126 < eA s i
  ·have:fS 32 126 (eA s i)=J:=by simp[fS];omega
   simp only[go_sem,c,e,this,a,fF]
  have:fS 32 126 (eA s i)=I:=by simp[fS];omega
  simp only[go_sem,c,e,this,a,fF,f]) (by simp only[go_sem,bK,Jf,aB]) s.size 0 (by omega)
 rw[n0]at d;rw[d];unfold jh;cases rB (λi=>fS 32 126 (eA s i)) 0 s.size<;>simp only[go_sem]
end
section
def Lz(s:Nat)(n r:Int):Prop:=r=-1\/(0<=r/\r+(s:Int)=n)
theorem VI{a c:Type}{b:a->u (Sg a c)}(es:M (M D))(mk:Int->Nat->a)(neg:c)(fin:Int->c)
  (f:∀i e n,nth es i=Z e->0<=n->n<=1048576->b (mk n i)=Z (.out neg)\/∃r,0<=r/\r+(fm e:Int)=n/\b (mk n i)=Z (.go (mk r (i+1))))
  (l:∀n,b (mk n es.length)=Z (.out (fin n))):∀(m i:Nat) (n:Int),i+m=es.length->0<=n->n<=1048576->
  cl b (mk n i)=Z neg\/∃r,0<=r/\r+(qy (es.drop i):Int)=n/\cl b (mk n i)=Z (fin r)
 |0,i,n,h,d,k=>by
  obtain rfl:i=es.length:=by omega
  refine .inr ⟨n,d,?_,aX (l n)⟩;rw[bJ,qy];omega
 |m+1,i,n,h,d,k=>by
  have j:i < es.length:=by omega
  have t:nth es i=Z es[i]:=dz j;have hd:es.drop i=es[i]::es.drop (i+1):=sQ j;rcases f i _ n t d k with g|⟨r,p,q,g⟩
  ·exact .inl (aX g)
  ·rw[bU g,hd,qy];rcases VI es mk neg fin f l m (i+1) r (by omega) p (by omega) with g|⟨o,s,v,g⟩
   ·exact .inl g
   ·exact .inr ⟨o,s,by omega,g⟩
theorem BE{d g:Type}{b:d->u (Sg d g)}(es:M (M D))(a:M D)(mk:Nat->M (M D)->d)(fin:M (M D)->g)
  (j:∀i e c,nth es i=Z e->nth c i=Z a->b (mk i c)=Z (.go (mk (i+1) (c.set i e))))
  (l:∀c,b (mk es.length c)=Z (.out (fin c))):cl b (mk 0 (aY es.length a))=Z (fin es):=by
 have h:=ei (b:=b) es mk (λi=>es.take i++aY (es.length - i) a) (fin es) (by
  intro i e f;have m:=bw f;have k:nth (es.take i++aY (es.length - i) a) i=Z a:=by
   rw[eh,dw (by rw[bj];omega),bj,List.getElem?_replicate,if_pos (by omega)]
  have h:=j i e _ f k;rw[Vz f]at h;exact h) (by
  have h:=l (es.take es.length++aY (es.length - es.length) a);rw[bo,oF,List.replicate_zero,aJ]at h ⊢;exact h) es.length 0 (by omega)
 rw[bE,av,Nat.sub_zero]at h;exact h
theorem vK{k:Nat}{fl:Bool}{es:M (M D)}{i:Nat}{a ds:M D}(h:nth es i=Z a)(c:a.length=k)(hd:ds.length=k)(b:fl=I->dW ds=I) :
  aU (.set 0) (.list k fl es::E (i:Int)::ds)=Z (.list k fl (es.set i ds)):=by
 simp only[aU,cd,h];rw[if_pos ⟨by omega,b⟩];have:gU a 0 ds=ds:=by
  unfold gU;rw[bE,av,bu,fP (by omega),aJ]
 rw[this]
theorem q_{k by_:Nat}{fl:Bool}{zs:M SK}{n:Nat}(a:n<=mg)(b:by_<=4096):aU (.make k by_ fl zs) [E (n:Int)]=Z (.list k fl (aY n (zs.map SK.d))):=by
 simp only[aU,cd];rw[if_pos];have:n * by_<=mg * 4096:=Nat.mul_le_mul a b;simp only[mg,room]at *;omega
theorem ne_self{b:Type}[DecidableEq b](a:b):(!Z' (a=a))=J:=by simp
theorem pB{b:Type}{f:b->M D}:∀{es:M (M D)},(∀e∈es,∃x,e=f x)->∃a:M b,es=a.map f
 |[],_=>⟨[],rfl⟩
 |e::es,h=>by
  obtain⟨x,rfl⟩:=h e bQ;obtain⟨a,rfl⟩:=pB (es:=es) λe c=>h e (bT _ c);exact⟨x::a,rfl⟩
theorem iK{k:Nat}{fl:Bool}{xs es:M (M D)}{e:M D}(b:e∈es)(a:D.list k fl xs∈e):aw xs < aw es:=by
 have d:=ba b;have c:=ba a;simp only[D.list.sizeOf_spec]at c;omega
theorem Cx{ρ:M D}{i:Nat}{e:M D}(es:M SE)(h:nth ρ i=Z (.list 0 J [e])):∀n j,j+n=e.length->jc ρ (Ah i j n++es)=(jc ρ es).map (e.drop j++·)
 |0,j,b=>by
  rw[fP (by omega)];simp[Ah]
 |n+1,j,b=>by
  have a:j < e.length:=by omega
  rw[Ah,au,UW,Cx es h n (j+1) (by omega),d_c,h,abz,dz a,sQ a];cases jc ρ es<;>rfl
def szB(k g:Nat):ST:=c1<|.map [1,0,3]<|h_ (b_ (o_ .len [Y 0]<|o_ L2 [Y 2,Y 3]<|L_ (r_ 0 3++[Y 4]))<|d_ 3 (L_ (r_ 0 4))<|M1<|L_ (r_ 0 4))<|k_ (h_ (b_ (o_ (.el k) [Y 0,Y 2]<|o_ (.has k) [Y 4]<|c_ g (YF 4 0 k++[Y 1])<|L_ [Y 0,Y 6,Y 2])<|b_ (o_ L2 [Y 1,N 0]<|L_ (r_ 0 4))<|d_ 3 (z_<|L_ [N (-1)])<|M1<|L_ (r_ 0 4))<|k_ (L_ [Y 0])<|c1<|M1<|o_ A2 [Y 2,N 1]<|L_ [Y 0,Y 1,Y 4])<|c1<|.map [2]<|L_ (r_ 0 4)
def szT(b:ST):ST:=z_<|b_ (L_ [Y 0,Y 1])<|b_ (o_ .len [Y 0]<|o_ S2 [Y 1,Y 2]<|L_ [Y 0,Y 3])<|h_ (b_ (o_ L2 [Y 1,N 0]<|L_ (r_ 0 3))<|d_ 2 (z_<|L_ [N (-1)])<|M1<|L_ (r_ 0 3))<|k_ (L_ [Y 0])<|c1<|h_ (b_ (L_ [Y 0,Y 1,N 0])<|.loop 0 (r_ 0 3) b)<|k_ (L_ [Y 0])<|c1<|z_<|L_ [Y 1]
def eqB(k g:Nat):ST:=c1<|.map [1,0,3]<|h_ (b_ (o_ .len [Y 0]<|o_ L2 [Y 2,Y 3]<|L_ (r_ 0 3++[Y 4]))<|d_ 3 (L_ (r_ 0 4))<|M1<|L_ (r_ 0 4))<|k_ (h_ (b_ (o_ (.el k) [Y 0,Y 2]<|o_ (.has k) [Y 4]<|o_ (.el k) [Y 1,Y 2]<|o_ (.has k) [Y 6]<|c_ g (YF 4 0 k++YF 6 0 k)<|o_ .not [Y 8]<|L_ (r_ 0 3++[Y 9]))<|d_ 3 (z_<|L_ [B J])<|M1<|L_ (r_ 0 4))<|k_ (L_ [Y 0])<|c1<|M1<|o_ A2 [Y 2,N 1]<|L_ [Y 0,Y 1,Y 4])<|c1<|.map [2]<|L_ (r_ 0 4)
def eqT(b:ST):ST:=z_<|b_ (L_ [Y 0,Y 1])<|h_ (b_ (o_ .len [Y 0]<|o_ .len [Y 1]<|o_ N2 [Y 2,Y 3]<|L_ [Y 0,Y 1,Y 4])<|d_ 2 (z_<|L_ [B J])<|M1<|L_ (r_ 0 3))<|k_ (L_ [Y 0])<|c1<|h_ (b_ (L_ [Y 0,Y 1,N 0])<|.loop 0 (r_ 0 3) b)<|k_ (L_ [Y 0])<|c1<|z_<|L_ [B I]
section
variable {F:Gf} {k g:Nat} {fl:Bool} {es:M (M D)}
theorem wK(hB:es.length<=maxLen)(m:∀e∈es,e.length=k)(A:∀e∈es,∀l:Int,0<=l->l<=1048576->∃r,F g (e++[E l])=Z (0,[E r])/\Lz (fm e) l r){l:Int}(v:0<=l)(t:l<=1048576) :
  ∃r,eZ F (szT (szB k g)) 0 [.list k fl es,E l]=Z (0,[E r])/\Lz (es.length+qy es) l r:=by
 have w:IntKind.i64.wrap (l - (es.length:Int))=l - (es.length:Int):=wrap_i64 (by simp only[maxLen]at hB;omega);by_cases c:l - (es.length:Int) < 0
 ·exact⟨-1,by simp only[go_sem,szT,w,c],.inl rfl⟩
 have y:es.length<=mg:=by simp only[mg];omega
 have s:=VI (b:=lB F (szB k g)) es (λn i=>(0,[.list k fl es,E n,E (i:Int)])) (0,[E (-1)]) (λn=>(1,[.list k fl es,E n,E es.length,.bool J])) (by
  intro i e n a v t;have d:=bw a;have x:=wj d y;obtain⟨r,f,h⟩:=A e (bp a) n v t;have o:aU (.has k) [.list 0 J [e]]=Z (.bool J):=by rw[ya,if_pos (Nat.le_of_eq (m e (bp a)).symm)]
  have j:jc [.list k fl es,E n,E (i:Int),.bool I,.list 0 J [e],.bool J] (YF 4 0 k++[Y 1])=Z (e++[E n]):=Cx _ rfl k 0 (by rw[bu,m e (bp a)]);rcases h with rfl|⟨p,q⟩
  ·exact .inl (by simp only[go_sem,bK,szB,d,a,o,j,f])
  ·have c:¬r < 0:=by omega
   exact .inr ⟨r,p,q,by simp only[go_sem,bK,szB,d,a,o,j,f,x,c]⟩) (by
  intro n;simp only[go_sem,bK,szB,aB]) es.length 0 (l - (es.length:Int)) (by omega) (by omega) (by omega)
 rw[n0]at s;rcases s with g|⟨r,p,q,g⟩
 ·exact⟨-1,by simp only[go_sem,szT,w,c,g],.inl rfl⟩
 ·rw[br]at q;exact⟨r,by simp only[go_sem,szT,w,c,g],.inr ⟨p,by omega⟩⟩
theorem tg(n:es.length<=mg)(c:∀e∈es,e.length=k)(p:∀e∈es,F g (e++e)=Z (0,[.bool I])) :
  eZ F (eqT (eqB k g)) 0 [.list k fl es,.list k fl es]=Z (0,[.bool I]):=by
 have h:=mU (b:=lB F (eqB k g)) es (λi=>(0,[.list k fl es,.list k fl es,E (i:Int)])) (λ_=>I) (1,[.list k fl es,.list k fl es,E es.length,.bool J]) (0,[.bool J]) (by
  intro i e a;have d:=bw a;have m:=wj d n;have f:=p e (bp a);have o:aU (.has k) [.list 0 J [e]]=Z (.bool J):=by rw[ya,if_pos (Nat.le_of_eq (c e (bp a)).symm)]
  have l:jc [.list k fl es,.list k fl es,E (i:Int),.bool I,.list 0 J [e],.bool J,.list 0 J [e],.bool J] (YF 4 0 k++YF 6 0 k)=Z (e++e):=by
   have j:=Cx (ρ:=[.list k fl es,.list k fl es,E (i:Int),.bool I,.list 0 J [e],.bool J,.list 0 J [e],.bool J]) (i:=6) [] rfl k 0 (by rw[bu,c e (bp a)]);rw[aJ]at j;rw[Cx (e:=e) _ rfl k 0 (by rw[bu,c e (bp a)]),j];simp[abx]
  simp only[go_sem,bK,eqB,d,a,o,l,f,m,if_true]) (by simp only[go_sem,bK,eqB,aB])
 rw[n0]at h;have q:(es.all λ_=>I)=I:=by simp
 rw[q]at h;simp only[go_sem]at h;simp only[go_sem,eqT,h]
end
theorem lC{B:Nat}:∀{a:M Ty} {e:M D},fL B a e->e.length=a.length
 |[],e,h=>by cases e with
  |nil=>rfl
  |cons x e=>simp[fL]at h
 |t::a,e,h=>by
  obtain⟨x,c,rfl,_,b⟩:=h.cons_inv;rw[aG,aG,lC b]
end
section
theorem zf{B:Nat}{e:M D}(h:fL B (lay 0) e):∃a,e=[.str a]/\(a.size<=maxLen):=by
 obtain⟨_,_,rfl,b,c⟩:=h.cons_inv;obtain⟨a,rfl,d⟩:=b.jZ;rw[c.jH];exact⟨a,rfl,d⟩
theorem mG{B:Nat}{e:M D}(h:fL B (lay 2) e):∃c b a,e=[.str c,.str b,.list 3 J a]/\(c.size<=maxLen)/\(b.size<=maxLen)/\(a.length<=B/\eJ B 2 a):=by
 obtain⟨_,_,rfl,g,k⟩:=h.cons_inv;obtain⟨c,rfl,o⟩:=g.jZ;obtain⟨_,_,rfl,f,j⟩:=k.cons_inv;obtain⟨b,rfl,n⟩:=f.jZ;obtain⟨_,_,rfl,d,i⟩:=j.cons_inv;obtain⟨a,rfl,m,l⟩:=d.fY;rw[i.jH];exact⟨c,b,a,rfl,o,n,⟨m,l⟩⟩
theorem oL{B:Nat}{e:M D}(h:fL B (lay 3) e):∃b d c a,e=[E b,.str d,.str c,.list 4 J a]/\(-9223372036854775808<=b/\b<=9223372036854775807)/\(d.size<=maxLen)/\(c.size<=maxLen)/\(a.length<=B/\eJ B 3 a):=by
 obtain⟨_,_,rfl,k,o⟩:=h.cons_inv;obtain⟨b,rfl,f⟩:=k.mc;obtain⟨_,_,rfl,j,n⟩:=o.cons_inv;obtain⟨d,rfl,s⟩:=j.jZ;obtain⟨_,_,rfl,i,m⟩:=n.cons_inv;obtain⟨c,rfl,r⟩:=i.jZ;obtain⟨_,_,rfl,g,l⟩:=m.cons_inv;obtain⟨a,rfl,q,p⟩:=g.fY;rw[l.jH];exact⟨b,d,c,a,rfl,⟨f.1,f.2⟩,s,r,⟨q,p⟩⟩
theorem pQ{B:Nat}{e:M D}(h:fL B (lay 6) e):∃b a,e=[E b,E a]/\(-9223372036854775808<=b/\b<=9223372036854775807)/\(-9223372036854775808<=a/\a<=9223372036854775807):=by
 obtain⟨_,_,rfl,g,j⟩:=h.cons_inv;obtain⟨b,rfl,d⟩:=g.mc;obtain⟨_,_,rfl,f,i⟩:=j.cons_inv;obtain⟨a,rfl,c⟩:=f.mc;rw[i.jH];exact⟨b,a,rfl,⟨d.1,d.2⟩,⟨c.1,c.2⟩⟩
theorem DP{B:Nat}{e:M D}(h:fL B (lay 7) e):∃c b a f d,e=[E c,.list 2 I b,.list 1 I a,.str f,.str d]/\(-9223372036854775808<=c/\c<=9223372036854775807)/\(b.length<=B/\eJ B 6 b)/\(a.length<=B/\eJ B 0 a)/\(f.size<=maxLen)/\(d.size<=maxLen):=by
 obtain⟨_,_,rfl,m,r⟩:=h.cons_inv;obtain⟨c,rfl,g⟩:=m.mc;obtain⟨_,_,rfl,l,q⟩:=r.cons_inv;obtain⟨b,rfl,x,c1⟩:=l.fY;obtain⟨_,_,rfl,k,p⟩:=q.cons_inv;obtain⟨a,rfl,w,s⟩:=k.fY;obtain⟨_,_,rfl,j,o⟩:=p.cons_inv;obtain⟨f,rfl,v⟩:=j.jZ;obtain⟨_,_,rfl,i,n⟩:=o.cons_inv;obtain⟨d,rfl,t⟩:=i.jZ;rw[n.jH];exact⟨c,b,a,f,d,rfl,⟨g.1,g.2⟩,⟨x,c1⟩,⟨w,s⟩,v,t⟩
theorem sy{B:Nat}{e:M D}(h:fL B (lay 8) e):∃b a,e=[.str b,.str a]/\(b.size<=maxLen)/\(a.size<=maxLen):=by
 obtain⟨_,_,rfl,d,g⟩:=h.cons_inv;obtain⟨b,rfl,j⟩:=d.jZ;obtain⟨_,_,rfl,c,f⟩:=g.cons_inv;obtain⟨a,rfl,i⟩:=c.jZ;rw[f.jH];exact⟨b,a,rfl,j,i⟩
theorem sx{B:Nat}{e:M D}(h:fL B (lay 9) e):∃b a,e=[.str b,.list 2 I a]/\(b.size<=maxLen)/\(a.length<=B/\eJ B 8 a):=by
 obtain⟨_,_,rfl,d,g⟩:=h.cons_inv;obtain⟨b,rfl,j⟩:=d.jZ;obtain⟨_,_,rfl,c,f⟩:=g.cons_inv;obtain⟨a,rfl,i,c1⟩:=c.fY;rw[f.jH];exact⟨b,a,rfl,j,⟨i,c1⟩⟩
theorem DO{B:Nat}{e:M D}(h:fL B (lay 10) e):∃c b a,e=[.bool c,E b,.list 2 J a]/\(True)/\(-9223372036854775808<=b/\b<=9223372036854775807)/\(a.length<=B/\eJ B 9 a):=by
 obtain⟨_,_,rfl,i,l⟩:=h.cons_inv;obtain⟨c,rfl⟩:=i.qa;obtain⟨_,_,rfl,g,k⟩:=l.cons_inv;obtain⟨b,rfl,d⟩:=g.mc;obtain⟨_,_,rfl,f,j⟩:=k.cons_inv;obtain⟨a,rfl,n,m⟩:=f.fY;rw[j.jH];exact⟨c,b,a,rfl,trivial,⟨d.1,d.2⟩,⟨n,m⟩⟩
theorem oM{B:Nat}{e:M D}(h:fL B (lay 11) e):∃f d g i c b a,e=[E f,E d,.str g,.bool i,E c,.list 2 J b,.list 7 J a]/\(-9223372036854775808<=f/\f<=9223372036854775807)/\(-9223372036854775808<=d/\d<=9223372036854775807)/\(g.size<=maxLen)/\(True)/\(-9223372036854775808<=c/\c<=9223372036854775807)/\(b.length<=B/\eJ B 9 b)/\(a.length<=B/\eJ B 11 a):=by
 obtain⟨_,_,rfl,s,C⟩:=h.cons_inv;obtain⟨f,rfl,l⟩:=s.mc;obtain⟨_,_,rfl,r,A⟩:=C.cons_inv;obtain⟨d,rfl,k⟩:=r.mc;obtain⟨_,_,rfl,q,y⟩:=A.cons_inv;obtain⟨g,rfl,L⟩:=q.jZ;obtain⟨_,_,rfl,p,x⟩:=y.cons_inv;obtain⟨i,rfl⟩:=p.qa;obtain⟨_,_,rfl,o,w⟩:=x.cons_inv;obtain⟨c,rfl,j⟩:=o.mc;obtain⟨_,_,rfl,n,v⟩:=w.cons_inv;obtain⟨b,rfl,K,G⟩:=n.fY;obtain⟨_,_,rfl,m,t⟩:=v.cons_inv;obtain⟨a,rfl,H,F⟩:=m.fY;rw[t.jH];exact⟨f,d,g,i,c,b,a,rfl,⟨l.1,l.2⟩,⟨k.1,k.2⟩,L,trivial,⟨j.1,j.2⟩,⟨K,G⟩,⟨H,F⟩⟩
theorem lT{B:Nat}{e:M D}(h:fL B (lay 12) e):∃q x p o n w v m l t k j i g f d c b a,e=[E q,.str x,E p,.list 2 I o,.list 1 I n,.str w,.str v,.list 1 I m,.list 1 I l,.str t,.bool k,.bool j,.bool i,.bool g,E f,E d,.list 7 J c,.list 7 J b,.list 19 J a]/\(-9223372036854775808<=q/\q<=9223372036854775807)/\(x.size<=maxLen)/\(-9223372036854775808<=p/\p<=9223372036854775807)/\(o.length<=B/\eJ B 6 o)/\(n.length<=B/\eJ B 0 n)/\(w.size<=maxLen)/\(v.size<=maxLen)/\(m.length<=B/\eJ B 0 m)/\(l.length<=B/\eJ B 0 l)/\(t.size<=maxLen)/\(True)/\(True)/\(True)/\(True)/\(-9223372036854775808<=f/\f<=9223372036854775807)/\(-9223372036854775808<=d/\d<=9223372036854775807)/\(c.length<=B/\eJ B 11 c)/\(b.length<=B/\eJ B 11 b)/\(a.length<=B/\eJ B 12 a):=by
 obtain⟨_,_,rfl,h0,g0⟩:=h.cons_inv;obtain⟨q,rfl,U⟩:=h0.mc;obtain⟨_,_,rfl,h1,g1⟩:=g0.cons_inv;obtain⟨x,rfl,b1⟩:=h1.jZ;obtain⟨_,_,rfl,h2,g2⟩:=g1.cons_inv;obtain⟨p,rfl,T⟩:=h2.mc;obtain⟨_,_,rfl,h3,g3⟩:=g2.cons_inv;obtain⟨o,rfl,b3,c3⟩:=h3.fY;obtain⟨_,_,rfl,h4,g4⟩:=g3.cons_inv;obtain⟨n,rfl,b4,c4⟩:=h4.fY;obtain⟨_,_,rfl,h5,g5⟩:=g4.cons_inv;obtain⟨w,rfl,b5⟩:=h5.jZ;obtain⟨_,_,rfl,h6,g6⟩:=g5.cons_inv;obtain⟨v,rfl,b6⟩:=h6.jZ;obtain⟨_,_,rfl,Y,g7⟩:=g6.cons_inv;obtain⟨m,rfl,b7,c7⟩:=Y.fY;obtain⟨_,_,rfl,X,g8⟩:=g7.cons_inv;obtain⟨l,rfl,b8,c8⟩:=X.fY;obtain⟨_,_,rfl,W,g9⟩:=g8.cons_inv;obtain⟨t,rfl,b9⟩:=W.jZ;obtain⟨_,_,rfl,Km,S⟩:=g9.cons_inv;obtain⟨k,rfl⟩:=Km.qa;obtain⟨_,_,rfl,RQ,R⟩:=S.cons_inv;obtain⟨j,rfl⟩:=RQ.qa;obtain⟨_,_,rfl,V,Q⟩:=R.cons_inv;obtain⟨i,rfl⟩:=V.qa;obtain⟨_,_,rfl,H,P⟩:=Q.cons_inv;obtain⟨g,rfl⟩:=H.qa;obtain⟨_,_,rfl,G,N⟩:=P.cons_inv;obtain⟨f,rfl,s⟩:=G.mc;obtain⟨_,_,rfl,F,L⟩:=N.cons_inv;obtain⟨d,rfl,r⟩:=F.mc;obtain⟨_,_,rfl,C,K⟩:=L.cons_inv;obtain⟨c,rfl,TF,Kj⟩:=C.fY;obtain⟨_,_,rfl,A,g17⟩:=K.cons_inv;obtain⟨b,rfl,TG,KM⟩:=A.fY;obtain⟨_,_,rfl,y,g18⟩:=g17.cons_inv;obtain⟨a,rfl,Yt,Px⟩:=y.fY;rw[g18.jH];exact⟨q,x,p,o,n,w,v,m,l,t,k,j,i,g,f,d,c,b,a,rfl,⟨U.1,U.2⟩,b1,⟨T.1,T.2⟩,⟨b3,c3⟩,⟨b4,c4⟩,b5,b6,⟨b7,c7⟩,⟨b8,c8⟩,b9,trivial,trivial,trivial,trivial,⟨s.1,s.2⟩,⟨r.1,r.2⟩,⟨TF,Kj⟩,⟨TG,KM⟩,⟨Yt,Px⟩⟩
theorem DY{B:Nat}{e:M D}{a:M (M D)}(ok:fL B (lay 2) e)(h:.list 3 J a∈e):a.length<=B/\eJ B 2 a:=by
 obtain⟨g,f,d,rfl,j,i,⟨c,b⟩⟩:=mG ok;simp only[aI,D.list.injEq,reduceCtorEq,fR,or_false,false_or,true_and]at h;subst h;exact⟨c,b⟩
theorem DW{B:Nat}{e:M D}{a:M (M D)}(ok:fL B (lay 3) e)(h:.list 4 J a∈e):a.length<=B/\eJ B 3 a:=by
 obtain⟨i,g,f,d,rfl,_,k,j,⟨c,b⟩⟩:=oL ok;simp only[aI,D.list.injEq,reduceCtorEq,fR,or_false,false_or,true_and]at h;subst h;exact⟨c,b⟩
theorem DX{B:Nat}{e:M D}{a:M (M D)}(ok:fL B (lay 11) e)(h:.list 7 J a∈e):a.length<=B/\eJ B 11 a:=by
 obtain⟨l,k,j,i,g,f,d,rfl,_,_,o,_,_,⟨n,m⟩,⟨c,b⟩⟩:=oM ok;simp only[aI,D.list.injEq,reduceCtorEq,fR,or_false,false_or,aN,false_and,true_and]at h;subst h;exact⟨c,b⟩
theorem xL{B:Nat}{e:M D}{a:M (M D)}(ok:fL B (lay 12) e)(h:.list 19 J a∈e):a.length<=B/\eJ B 12 a:=by
 obtain⟨y,x,w,v,t,s,r,q,p,o,l,k,j,i,g,f,d,c,b,rfl,_,S,_,⟨R,G⟩,⟨Q,F⟩,P,N,⟨L,C⟩,⟨K,A⟩,H,_,_,_,_,_,_,⟨U,V⟩,⟨T,W⟩,⟨m,n⟩⟩:=lT ok;simp only[aI,D.list.injEq,reduceCtorEq,fR,or_false,false_or,aN,false_and,true_and,and_false]at h;subst h;exact⟨m,n⟩
end
end Go.Proofs.YtgfcijiikgjbcaaGreatDoor
