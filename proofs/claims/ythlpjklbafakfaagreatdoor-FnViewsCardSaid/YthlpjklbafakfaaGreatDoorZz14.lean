/- Part of the proof: a machine over plain data, its proof, the functions of the program run on symbols, what they answer. Condition: none. -/
import Derived.Test.YthlpjklbafakfaaGreatDoorZz13
set_option linter.unusedVariables false
set_option linter.unusedSimpArgs false
open List renaming mem_cons->aP,mem_cons_self->aU,sizeOf_lt_of_mem->aX,mem_cons_of_mem->bk
open Nat renaming lt_irrefl->aG,lt_succ_self->aY,zero_add->bD
open SizeOf renaming sizeOf->av
open Option renaming some->Z
open Bool renaming true->I,false->J
open Decidable renaming decide->Z'
namespace Go.Proofs.YthlpjklbafakfaaGreatDoor
set_option maxRecDepth 100000
set_option maxHeartbeats 4000000
section
noncomputable abbrev G:Gf:=GF T nY
theorem l9(a b c:Int):G 74 [E a,E b,E c]=Z (0,[.bool (fG b c a)]):=by
 refine dd t74 rfl ?_;simp only[go_sem,t74];unfold fG;by_cases h:b<=a
 ·simp only[go_sem,h]
 ·simp only[go_sem,h]
theorem W5{b:Int}(h:0<=b/\b<=255):G 217 [.int .u8 b]=Z (0,[.bool (fG 97 122 b)]):=by
 refine dd t217 rfl ?_;simp only[go_sem,t217,acm h,l9]
theorem N_{b:Int}(h:0<=b/\b<=255):G 218 [.int .u8 b]=Z (0,[.bool (fG 48 57 b)]):=by
 refine dd t218 rfl ?_;simp only[go_sem,t218,acm h,l9]
theorem aaO(b:Int):G 258 [.int .u8 b]=Z (0,[.bool (fG 97 122 b)]):=by
 refine dd t258 rfl ?_;simp only[go_sem,t258];unfold fG;by_cases h:97<=b
 ·simp only[go_sem,h]
 ·simp only[go_sem,h]
theorem aeH(b:Int):G 259 [.int .u8 b]=Z (0,[.bool (fG 48 57 b)]):=by
 refine dd t259 rfl ?_;simp only[go_sem,t259];unfold fG;by_cases h:48<=b
 ·simp only[go_sem,h]
 ·simp only[go_sem,h]
def lx(b:Int):Bool:=fG 97 122 b ||(fG 48 57 b ||decide (b=45))
def M3(b:Int):Bool:=fG 97 122 b ||(fG 48 57 b ||(Z' (b=95) ||(Z' (b=45) ||decide (b=46))))
theorem ai0(b:Int):G 260 [.int .u8 b]=Z (0,[.bool (lx b)]):=by
 refine dd t260 rfl ?_;simp only[go_sem,t260,aaO,aeH]
 repeat' (first|with_reducible rfl|((first|rw[gx]|rw[gB]|rw[gu]|rw[gA]);split<;>simp only[go_sem,aaO,aeH, *]))
 all_goals simp_all[lx]
theorem aiP{b:Int}(h:0<=b/\b<=255):G 219 [.int .u8 b]=Z (0,[.bool (M3 b)]):=by
 refine dd t219 rfl ?_;simp only[go_sem,t219,W5 h,N_ h]
 repeat' (first|with_reducible rfl|((first|rw[gx]|rw[gB]|rw[gu]|rw[gA]);split<;>simp only[go_sem,W5 h,N_ h, *]))
 all_goals simp_all[M3]
def isName(s:z):Bool:=fG 1 16 s.size && (fG 97 122 (cr s 0) && (pB (λi=>lx (cr s i)) 1 (s.size - 1) && !Z' (cr s (s.size - 1)=45)))
def nmS(s:z)(i:Nat):Bool:=fG 97 122 (cr s i) ||!Z' ((i:Int)=0) && (fG 48 57 (cr s i) ||decide (cr s i=45))
theorem Wy(s:z):(pB (nmS s) 0 s.size && (fG 1 16 s.size && !Z' (cr s (s.size - 1)=45)))=isName s:=by
 unfold isName;by_cases d:s.size=0
 ·have:fG 1 16 s.size=J:=by rw[d];rfl
  rw[this];simp
 ·obtain⟨n,c⟩:∃n,s.size=n+1:=⟨s.size - 1,by omega⟩
  have b:pB (nmS s) 0 s.size=(fG 97 122 (cr s 0) && pB (λi=>lx (cr s i)) 1 (s.size - 1)):=by
   rw[c];simp only[pB,bD,Nat.add_sub_cancel];have a:nmS s 0=fG 97 122 (cr s 0):=by simp[nmS]
   rw[a,CP n 1 λj b a=>?_];have:¬j=0:=by omega
   simp[nmS,lx,this]
  rw[b];cases fG 97 122 (cr s 0)<;>cases pB (λi=>lx (cr s i)) 1 (s.size - 1)<;>cases fG 1 16 s.size<;>simp
theorem PW{s:z}(h:1<=s.size)(a:s.size<=mg):IntKind.i64.wrap ((s.size:Int) - 1)=((s.size - 1:Nat):Int):=by
 simp only[mg]at a;rw[wrap_i64 (by omega)];omega
theorem aaK{s:z}(d:s.size<=mg):G 202 [.str s]=Z (0,[.bool (isName s)]):=by
 refine dd t202 rfl ?_;simp only[go_sem,t202];have e:=o7 (b:=lB G IC) (λi=>(0,[.str s,E (i:Int)])) (nmS s) s.size (1,[.str s,E s.size,.bool J]) (0,[.bool J]) (by
  intro i a;have g:=wj a d;simp only[go_sem,bn,IC,a,c9,l9]
  repeat' (first|with_reducible rfl|((first|rw[gx]|rw[gB]|rw[gu]|rw[gA]);split<;>simp only[go_sem,a,c9,l9, *]))
  all_goals simp_all[nmS]) (by simp only[go_sem,bn,IC,aG]) s.size 0 (by omega)
 rw[n0]at e;rw[e,<- Wy];cases pB (nmS s) 0 s.size with
 |false=>simp only[go_sem]
 |true=>
  simp only[go_sem,l9];cases c:fG 1 16 (s.size:Int) with
  |false=>simp only[go_sem,c]
  |true=>
   have h:=(gG _ _ _).1 c;have f:=PW (s:=s) (by omega) d;simp only[go_sem,c,f,c9 _ _ (show s.size - 1 < s.size by omega)]
theorem aaP{s:z}(e:s.size<=mg):G 261 [.str s]=Z (0,[.bool (isName s)]):=by
 refine dd t261 rfl ?_;simp only[go_sem,t261];by_cases c:(s.size:Int) < 1
 ·have:fG 1 16 (s.size:Int)=J:=by simp[fG];omega
  simp only[go_sem,c,isName,this]
 by_cases h:16 < (s.size:Int)
 ·have:fG 1 16 (s.size:Int)=J:=by simp[fG];omega
  simp only[go_sem,c,h,isName,this]
 have j:fG 1 16 (s.size:Int)=I:=by simp[fG];omega
 have d:=c9 s 0 (by omega);rw[n0]at d;simp only[go_sem,c,h,isName,j,d,aaO];cases g:fG 97 122 (cr s 0) with
 |false=>simp only[go_sem,g]
 |true=>
  simp only[go_sem,g];have f:=o7 (b:=lB G IT) (λi=>(0,[.str s,E (i:Int)])) (λi=>lx (cr s i)) s.size (1,[.str s,E s.size,.bool J]) (0,[.bool J]) (by
   intro i a;have l:=wj a e;simp only[go_sem,bn,IT,a,c9,ai0]
   repeat' (first|with_reducible rfl|((first|rw[gx]|rw[gB]|rw[gu]|rw[gA]);split<;>simp only[go_sem,a,c9,ai0, *]))
   all_goals simp_all) (by simp only[go_sem,bn,IT,aG]) (s.size - 1) 1 (by omega)
  rw[n1]at f;rw[f];cases pB (λi=>lx (cr s i)) 1 (s.size - 1) with
  |false=>simp only[go_sem]
  |true=>
   have k:=PW (s:=s) (by omega) e;simp only[go_sem,k,c9 _ _ (show s.size - 1 < s.size by omega)]
def je(s:z):Bool:=pB (λi=>fG 32 126 (cr s i)) 0 s.size && Z' ((s.size:Int)<=40)
theorem aaL{s:z}(d:s.size<=mg):G 204 [.str s]=Z (0,[.bool (je s)]):=by
 refine dd t204 rfl ?_;simp only[go_sem,t204];have c:=o7 (b:=lB G ID) (λi=>(0,[.str s,E (i:Int)])) (λi=>fG 32 126 (cr s i)) s.size (1,[.str s,E s.size,.bool J]) (0,[.bool J]) (by
  intro i a;have e:=wj a d;simp only[go_sem,bn,ID,a,c9,l9]
  repeat' (first|with_reducible rfl|((first|rw[gx]|rw[gB]|rw[gu]|rw[gA]);split<;>simp only[go_sem,a,c9,l9, *]))
  all_goals simp_all) (by simp only[go_sem,bn,ID,aG]) s.size 0 (by omega)
 rw[n0]at c;rw[c];unfold je;cases pB (λi=>fG 32 126 (cr s i)) 0 s.size<;>simp only[go_sem]
theorem aaQ{s:z}(g:s.size<=mg):G 264 [.str s]=Z (0,[.bool (je s)]):=by
 refine dd t264 rfl ?_;simp only[go_sem,t264];have d:=o7 (b:=lB G IU) (λi=>(0,[.str s,E (i:Int)])) (λi=>fG 32 126 (cr s i)) s.size (1,[.str s,E s.size,.bool J]) (0,[.bool J]) (by
  intro i a;have f:=wj a g;simp only[go_sem,bn,IU,a,c9];by_cases c:cr s i < 32
  ·have:fG 32 126 (cr s i)=J:=by simp[fG];omega
   simp only[go_sem,c,this]
  by_cases e:126 < cr s i
  ·have:fG 32 126 (cr s i)=J:=by simp[fG];omega
   simp only[go_sem,c,e,this,a,c9]
  have:fG 32 126 (cr s i)=I:=by simp[fG];omega
  simp only[go_sem,c,e,this,a,c9,f]) (by simp only[go_sem,bn,IU,aG]) s.size 0 (by omega)
 rw[n0]at d;rw[d];unfold je;cases pB (λi=>fG 32 126 (cr s i)) 0 s.size<;>simp only[go_sem]
end
theorem o0{b:Type}{f:b->M D}:∀{es:M (M D)},(∀e∈es,∃x,e=f x)->∃a:M b,es=a.map f
 |[],_=>⟨[],rfl⟩
 |e::es,h=>by
  obtain⟨x,rfl⟩:=h e aU;obtain⟨a,rfl⟩:=o0 (es:=es) λe c=>h e (bk _ c);exact⟨x::a,rfl⟩
theorem EG{k:Nat}{fl:Bool}{xs es:M (M D)}{e:M D}(b:e∈es)(a:D.list k fl xs∈e):av xs < av es:=by
 have d:=aX b;have c:=aX a;simp only[D.list.sizeOf_spec]at c;omega
section
theorem ZR{B:Nat}{e:M D}(h:gX B (lay 0) e):∃a,e=[.str a]/\(a.size<=maxLen):=by
 obtain⟨_,_,rfl,b,c⟩:=h.cons_inv;obtain⟨a,rfl,d⟩:=b.j9;rw[c.jF];exact⟨a,rfl,d⟩
theorem VX{B:Nat}{e:M D}(h:gX B (lay 1) e):∃c b a d,e=[.str c,.list 1 I b,E a,.bool d]/\(c.size<=maxLen)/\(b.length<=B/\hO B 0 b)/\(-9223372036854775808<=a/\a<=9223372036854775807)/\(True):=by
 obtain⟨_,_,rfl,k,l⟩:=h.cons_inv;obtain⟨c,rfl,n⟩:=k.j9;obtain⟨_,_,rfl,j,g1⟩:=l.cons_inv;obtain⟨b,rfl,m,c1⟩:=j.jE;obtain⟨_,_,rfl,i,g2⟩:=g1.cons_inv;obtain⟨a,rfl,f⟩:=i.lU;obtain⟨_,_,rfl,g,g3⟩:=g2.cons_inv;obtain⟨d,rfl⟩:=g.na;rw[g3.jF];exact⟨c,b,a,d,rfl,n,⟨m,c1⟩,⟨f.1,f.2⟩,trivial⟩
theorem VW{B:Nat}{e:M D}(h:gX B (lay 2) e):∃c b a,e=[.str c,.str b,.list 3 J a]/\(c.size<=maxLen)/\(b.size<=maxLen)/\(a.length<=B/\hO B 2 a):=by
 obtain⟨_,_,rfl,g,i⟩:=h.cons_inv;obtain⟨c,rfl,m⟩:=g.j9;obtain⟨_,_,rfl,f,g1⟩:=i.cons_inv;obtain⟨b,rfl,l⟩:=f.j9;obtain⟨_,_,rfl,d,g2⟩:=g1.cons_inv;obtain⟨a,rfl,k,j⟩:=d.jE;rw[g2.jF];exact⟨c,b,a,rfl,m,l,⟨k,j⟩⟩
theorem RZ{B:Nat}{e:M D}(h:gX B (lay 6) e):∃b a,e=[E b,E a]/\(-9223372036854775808<=b/\b<=9223372036854775807)/\(-9223372036854775808<=a/\a<=9223372036854775807):=by
 obtain⟨_,_,rfl,g,i⟩:=h.cons_inv;obtain⟨b,rfl,d⟩:=g.lU;obtain⟨_,_,rfl,f,g1⟩:=i.cons_inv;obtain⟨a,rfl,c⟩:=f.lU;rw[g1.jF];exact⟨b,a,rfl,⟨d.1,d.2⟩,⟨c.1,c.2⟩⟩
theorem VZ{B:Nat}{e:M D}(h:gX B (lay 8) e):∃b a,e=[.str b,.str a]/\(b.size<=maxLen)/\(a.size<=maxLen):=by
 obtain⟨_,_,rfl,d,f⟩:=h.cons_inv;obtain⟨b,rfl,i⟩:=d.j9;obtain⟨_,_,rfl,c,g1⟩:=f.cons_inv;obtain⟨a,rfl,g⟩:=c.j9;rw[g1.jF];exact⟨b,a,rfl,i,g⟩
theorem VY{B:Nat}{e:M D}(h:gX B (lay 9) e):∃b a,e=[.str b,.list 2 I a]/\(b.size<=maxLen)/\(a.length<=B/\hO B 8 a):=by
 obtain⟨_,_,rfl,d,f⟩:=h.cons_inv;obtain⟨b,rfl,i⟩:=d.j9;obtain⟨_,_,rfl,c,g1⟩:=f.cons_inv;obtain⟨a,rfl,g,c1⟩:=c.jE;rw[g1.jF];exact⟨b,a,rfl,i,⟨g,c1⟩⟩
theorem VV{B:Nat}{e:M D}(h:gX B (lay 11) e):∃f d g i c b a,e=[E f,E d,.str g,.bool i,E c,.list 2 J b,.list 7 J a]/\(-9223372036854775808<=f/\f<=9223372036854775807)/\(-9223372036854775808<=d/\d<=9223372036854775807)/\(g.size<=maxLen)/\(True)/\(-9223372036854775808<=c/\c<=9223372036854775807)/\(b.length<=B/\hO B 9 b)/\(a.length<=B/\hO B 11 a):=by
 obtain⟨_,_,rfl,s,w⟩:=h.cons_inv;obtain⟨f,rfl,l⟩:=s.lU;obtain⟨_,_,rfl,r,g1⟩:=w.cons_inv;obtain⟨d,rfl,k⟩:=r.lU;obtain⟨_,_,rfl,q,g2⟩:=g1.cons_inv;obtain⟨g,rfl,F⟩:=q.j9;obtain⟨_,_,rfl,p,g3⟩:=g2.cons_inv;obtain⟨i,rfl⟩:=p.na;obtain⟨_,_,rfl,o,g4⟩:=g3.cons_inv;obtain⟨c,rfl,j⟩:=o.lU;obtain⟨_,_,rfl,n,v⟩:=g4.cons_inv;obtain⟨b,rfl,C,y⟩:=n.jE;obtain⟨_,_,rfl,m,t⟩:=v.cons_inv;obtain⟨a,rfl,A,x⟩:=m.jE;rw[t.jF];exact⟨f,d,g,i,c,b,a,rfl,⟨l.1,l.2⟩,⟨k.1,k.2⟩,F,trivial,⟨j.1,j.2⟩,⟨C,y⟩,⟨A,x⟩⟩
theorem Nw{B:Nat}{e:M D}(h:gX B (lay 12) e):∃q x p o n w v m l t k j i g f d c b a,e=[E q,.str x,E p,.list 2 I o,.list 1 I n,.str w,.str v,.list 1 I m,.list 1 I l,.str t,.bool k,.bool j,.bool i,.bool g,E f,E d,.list 7 J c,.list 7 J b,.list 19 J a]/\(-9223372036854775808<=q/\q<=9223372036854775807)/\(x.size<=maxLen)/\(-9223372036854775808<=p/\p<=9223372036854775807)/\(o.length<=B/\hO B 6 o)/\(n.length<=B/\hO B 0 n)/\(w.size<=maxLen)/\(v.size<=maxLen)/\(m.length<=B/\hO B 0 m)/\(l.length<=B/\hO B 0 l)/\(t.size<=maxLen)/\(True)/\(True)/\(True)/\(True)/\(-9223372036854775808<=f/\f<=9223372036854775807)/\(-9223372036854775808<=d/\d<=9223372036854775807)/\(c.length<=B/\hO B 11 c)/\(b.length<=B/\hO B 11 b)/\(a.length<=B/\hO B 12 a):=by
 obtain⟨_,_,rfl,h0,g0⟩:=h.cons_inv;obtain⟨q,rfl,b0⟩:=h0.lU;obtain⟨_,_,rfl,h1,g1⟩:=g0.cons_inv;obtain⟨x,rfl,b1⟩:=h1.j9;obtain⟨_,_,rfl,h2,g2⟩:=g1.cons_inv;obtain⟨p,rfl,b2⟩:=h2.lU;obtain⟨_,_,rfl,h3,g3⟩:=g2.cons_inv;obtain⟨o,rfl,b3,c3⟩:=h3.jE;obtain⟨_,_,rfl,h4,g4⟩:=g3.cons_inv;obtain⟨n,rfl,b4,c4⟩:=h4.jE;obtain⟨_,_,rfl,h5,g5⟩:=g4.cons_inv;obtain⟨w,rfl,b5⟩:=h5.j9;obtain⟨_,_,rfl,h6,g6⟩:=g5.cons_inv;obtain⟨v,rfl,b6⟩:=h6.j9;obtain⟨_,_,rfl,h7,g7⟩:=g6.cons_inv;obtain⟨m,rfl,b7,c7⟩:=h7.jE;obtain⟨_,_,rfl,h8,g8⟩:=g7.cons_inv;obtain⟨l,rfl,b8,c8⟩:=h8.jE;obtain⟨_,_,rfl,h9,g9⟩:=g8.cons_inv;obtain⟨t,rfl,b9⟩:=h9.j9;obtain⟨_,_,rfl,Cs,S⟩:=g9.cons_inv;obtain⟨k,rfl⟩:=Cs.na;obtain⟨_,_,rfl,Is,R⟩:=S.cons_inv;obtain⟨j,rfl⟩:=Is.na;obtain⟨_,_,rfl,JS,Q⟩:=R.cons_inv;obtain⟨i,rfl⟩:=JS.na;obtain⟨_,_,rfl,H,P⟩:=Q.cons_inv;obtain⟨g,rfl⟩:=H.na;obtain⟨_,_,rfl,G,N⟩:=P.cons_inv;obtain⟨f,rfl,s⟩:=G.lU;obtain⟨_,_,rfl,F,L⟩:=N.cons_inv;obtain⟨d,rfl,r⟩:=F.lU;obtain⟨_,_,rfl,C,K⟩:=L.cons_inv;obtain⟨c,rfl,Y,V⟩:=C.jE;obtain⟨_,_,rfl,A,g17⟩:=K.cons_inv;obtain⟨b,rfl,X,U⟩:=A.jE;obtain⟨_,_,rfl,y,g18⟩:=g17.cons_inv;obtain⟨a,rfl,W,T⟩:=y.jE;rw[g18.jF];exact⟨q,x,p,o,n,w,v,m,l,t,k,j,i,g,f,d,c,b,a,rfl,⟨b0.1,b0.2⟩,b1,⟨b2.1,b2.2⟩,⟨b3,c3⟩,⟨b4,c4⟩,b5,b6,⟨b7,c7⟩,⟨b8,c8⟩,b9,trivial,trivial,trivial,trivial,⟨s.1,s.2⟩,⟨r.1,r.2⟩,⟨Y,V⟩,⟨X,U⟩,⟨W,T⟩⟩
end
section
section
variable {B:Nat}
theorem yp{es:M (M D)}(ok:hO B 0 es):∃a:M z,es=a.map fR:=o0 λe b=>by
 obtain⟨x,h,_⟩:=ZR (ok.mem e b);exact⟨x,h⟩
theorem Rl{es:M (M D)}(ok:hO B 6 es):∃a:M j_,es=a.map ki:=o0 λe b=>by
 obtain⟨x,y,h,_⟩:=RZ (ok.mem e b);exact⟨⟨x,y⟩,h⟩
theorem Uy{es:M (M D)}(ok:hO B 8 es):∃a:M iH,es=a.map jW:=o0 λe b=>by
 obtain⟨x,y,h,_⟩:=VZ (ok.mem e b);exact⟨⟨x,y⟩,h⟩
theorem Ux{es:M (M D)}(ok:hO B 9 es):∃a:M kS,es=a.map eS:=o0 λe d=>by
 obtain⟨x,y,h,_,_,c⟩:=VY (ok.mem e d);obtain⟨b,rfl⟩:=Uy c;exact⟨⟨x,b⟩,h⟩
theorem M8(m:Nat):∀es:M (M D),av es < m->hO B 11 es->∃xs:M cM,es=xs.map cj:=by
 induction m with
 |zero=>intro es h;omega
 |succ m n=>
  intro es r ok;refine o0 λe b=>?_;obtain⟨i,g,f,d,c,q,a,h,_,_,_,_,_,⟨_,p⟩,⟨_,o⟩⟩:=VV (ok.mem e b);obtain⟨j,rfl⟩:=Ux p;obtain⟨l,rfl⟩:=n a (by have:=EG (k:=7) (fl:=J) (xs:=a) b (by rw[h];simp only[aP,true_or,or_true]);omega) o;exact⟨⟨i,g,f,⟨d,c,j⟩,l⟩,by rw[h,br]⟩
theorem Kz{es:M (M D)}(ok:hO B 11 es):∃a:M cM,es=a.map cj:=M8 _ es (aY _) ok
theorem Ic(m:Nat):∀es:M (M D),av es < m->hO B 12 es->∃xs:M ah,es=xs.map aB:=by
 induction m with
 |zero=>intro es h;omega
 |succ m F=>
  intro es S ok;refine o0 λe r=>?_;obtain⟨C,A,w,R,Q,v,t,P,N,s,n,l,j,i,g,f,y,x,a,h,_,_,_,⟨_,L⟩,⟨_,K⟩,_,_,⟨_,H⟩,⟨_,G⟩,_,_,_,_,_,_,_,⟨_,q⟩,⟨_,p⟩,⟨_,o⟩⟩:=Nw (ok.mem e r);obtain⟨y3,rfl⟩:=Rl L;obtain⟨y4,rfl⟩:=yp K;obtain⟨y7,rfl⟩:=yp H;obtain⟨y8,rfl⟩:=yp G;obtain⟨d,rfl⟩:=Kz q;obtain⟨c,rfl⟩:=Kz p;obtain⟨b,rfl⟩:=F a (by have:=EG (k:=19) (fl:=J) (xs:=a) r (by rw[h];simp only[aP,true_or,or_true]);omega) o;exact⟨⟨C,A,⟨w,y3,y4,v,t⟩,y7,y8,s,n,l,j,i,g,f,d,c,b⟩,by rw[h,ai]⟩
theorem xi{es:M (M D)}(ok:hO B 12 es):∃a:M ah,es=a.map aB:=Ic _ es (aY _) ok
theorem M9(m:Nat):∀es:M (M D),av es < m->hO B 2 es->∃xs:M aD,es=xs.map bp:=by
 induction m with
 |zero=>intro es h;omega
 |succ m i=>
  intro es j ok;refine o0 λe b=>?_;obtain⟨f,d,a,h,_,_,_,c⟩:=VW (ok.mem e b);obtain⟨g,rfl⟩:=i a (by have:=EG (k:=3) (fl:=J) (xs:=a) b (by rw[h];simp only[aP,true_or,or_true]);omega) c;exact⟨⟨f,d,g⟩,by rw[h,aT]⟩
theorem KA{es:M (M D)}(ok:hO B 2 es):∃a:M aD,es=a.map bp:=M9 _ es (aY _) ok
end
end
end Go.Proofs.YthlpjklbafakfaaGreatDoor
