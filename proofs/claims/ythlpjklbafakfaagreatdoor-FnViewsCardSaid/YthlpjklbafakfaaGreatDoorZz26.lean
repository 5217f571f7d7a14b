/- Part of the proof: a machine over plain data, its proof, the functions of the program run on symbols, what they answer. Condition: none. -/
import Derived.Test.YthlpjklbafakfaaGreatDoorZz25
set_option linter.unusedVariables false
set_option linter.unusedSimpArgs false
set_option linter.unusedSectionVars false
open List renaming length_map->aj,length_cons->aE,length_nil->aJ,mem_cons->aP,mem_cons_self->aU,map_cons->aW,not_mem_nil->uj
open Nat renaming le_trans->aL,lt_succ_self->aY,zero_le->cB
open Option renaming some->Z
open Bool renaming true->I,false->J
open Decidable renaming decide->Z'
namespace Go.Proofs.YthlpjklbafakfaaGreatDoor
set_option maxRecDepth 100000
set_option maxHeartbeats 8000000
section
theorem OD{y S NL x k i A a W E ED:D}{j:Nat}{v z:Int}{p:Bool}(B:j < 4)
  (e:G 385 [y]=Z (0,[.bool J])) (d:G 435 [y]=Z (j,[S,NL,x,k])) (f250:G 250 [S,NL]=Z (0,[.bool I]))
  (a1:G 343 [S,NL,x,k]=Z (0,[i,.bool I])) (a2:G 343 [S,i,x,k]=Z (0,[i,.bool I]))
  (a3:G 343 [S,NL,.list 4 J [],k]=Z (0,[NL,.bool I])) (a4:G 343 [S,NL,W,k]=Z (0,[A,.bool I]))
  (c:G 436 [y,.int .i64 1]=Z (0,[.int .i64 v])) (fr:aK (.bin .rem) [.int .i64 v,.int .i64 2]=Z (.int .i64 (v % 2))) (o:Z' (v % 2=0)=p)
  (s:aK (.mW 4 J) [.str oP,.list 1 I [],.int .i64 0,.bool p]=Z a) (fa:aK (.app 4 56) [a,x]=Z W)
  (w:aK .FA [W,.int .i64 0]=Z (.bool J)) (t:∀b,aK (.Gv 4 3 1 b) [W,.int .i64 0]=Z E) (r:aK (.OX 3) [E]=Z (.bool p))
  (g:aK .len [NL]=Z (.int .i64 z)) (h:z=0\/z≠0/\G 357 [.int .i64 1,NL]=Z (0,[ED])/\G 107 [S,.list 4 J [],k,ED]=Z (0,[.bool J]))
  (n:G 197 [i,i]=Z (0,[.bool I])) (m:G 331 [S,i,NL]=Z (0,[.bool I])) (l:G 197 [NL,NL]=Z (0,[.bool I]))
  (f:p=I/\G 197 [A,NL]=Z (0,[.bool I])\/p=J/\aK .len [A]=Z (.int .i64 0)) :
  G 437 [y]=Z (0,[.bool I]):=by
 refine dd JC rfl ?_;have q:j=0\/j=1\/j=2\/j=3:=by omega
 rcases h with h|⟨h,g1,g2⟩
 ·subst h;rcases f with ⟨rfl,f⟩|⟨rfl,f⟩
  ·rcases q with rfl|rfl|rfl|rfl<;>simp only[go_sem,JC,e,d,f250,a1,a2,a3,a4,c,fr,o,Cw,s,fa,w,t,r,g,n,m,l,f]
  ·rcases q with rfl|rfl|rfl|rfl<;>simp only[go_sem,JC,e,d,f250,a1,a2,a3,a4,c,fr,o,Cw,s,fa,w,t,r,g,n,m,l,f]
 ·rcases f with ⟨rfl,f⟩|⟨rfl,f⟩
  ·rcases q with rfl|rfl|rfl|rfl<;>simp only[go_sem,JC,e,d,f250,a1,a2,a3,a4,c,fr,o,Cw,s,fa,w,t,r,g,h,g1,g2,n,m,l,f]
  ·rcases q with rfl|rfl|rfl|rfl<;>simp only[go_sem,JC,e,d,f250,a1,a2,a3,a4,c,fr,o,Cw,s,fa,w,t,r,g,h,g1,g2,n,m,l,f]
theorem TC{c S NL d e g:D}{j:Nat}(h:j < 4)
  (b:G 385 [c]=Z (0,[.bool J])) (a:G 435 [c]=Z (j,[S,NL,d,e])) (f250:G 250 [S,NL]=Z (0,[.bool J]))
  (a1:G 343 [S,NL,d,e]=Z (0,[g,.bool J])):G 437 [c]=Z (0,[.bool I]):=by
 refine dd JC rfl ?_;have f:j=0\/j=1\/j=2\/j=3:=by omega
 rcases f with rfl|rfl|rfl|rfl<;>simp only[go_sem,JC,b,a,f250,a1]
theorem TA{b:D}(a:G 385 [b]=Z (0,[.bool I])):G 437 [b]=Z (0,[.bool I]):=by
 refine dd JC rfl ?_;simp only[go_sem,JC,a]
theorem Mm{c:M l6}{b a:M z}{p:Bool}:qT (⟨oP,[],0,p⟩::c) b a 1=p:=by
 have h:Vz b a 1 ⟨oP,[],0,p⟩=I:=by
  simp only[Vz,oP];simp[bgS]
 unfold qT;rw[nZ,if_pos h];rfl
theorem Vh{code:M (M D)}(U:code.length<=maxLen)(q:hO maxLen 16 code):G 437 [.list 1 I code]=Z (0,[.bool I]):=by
 have c:=ajf U;by_cases hb:(4096:Int) < (code.length:Int)
 ·exact TA (by rw[c,decide_eq_true hb])
 rw[decide_eq_false hb]at c;obtain⟨j,us,a,R,Q⟩:=am_ q (by rw[XO q];omega);obtain⟨d1,d2,d3,d4,rfl,P,N,L,K⟩:=g4 Q;obtain⟨e1,rfl,B,_,y1,_⟩:=fw P;obtain⟨e2,rfl,A,_,y2,_⟩:=fw N;obtain⟨e3,rfl,y,_,y3,_⟩:=fw L;obtain⟨e4,rfl,w,_,y4,_⟩:=fw K;obtain⟨s,rfl⟩:=xi B;obtain⟨l,rfl⟩:=KA A;obtain⟨rs,rfl⟩:=Uw y;obtain⟨gs,rfl⟩:=yp w;rw[aj]at y1 y2 y3 y4;have hs:bQ aB s<=mg:=by simp only[bQ,mg];omega
 have f:bQ bp l<=mg:=by simp only[bQ,mg];omega
 have S:bQ tO rs<=mg:=by simp only[bQ,mg];omega
 have hr:rs.length<=mg:=by simp only[mg];omega
 have ZD:rs.length+1<=mg:=by simp only[mg];omega
 have hg:gs.length<=mg:=by simp only[mg];omega
 have hk:∀r∈rs,r.names.length<=mg:=λr h=>Ti S h;have anL:rs.length<=70:=by omega
 have a:G 435 [.list 1 I code]=Z (j,[az s,aZ l,kg rs,aO gs]):=a;clear B A y w y1 y2 y3 y4 P N L K Q S;have d:=aiZ hs f;have a1:=aaR (hr:=hr) (hg:=hg) (hk:=hk) (hs:=hs) (ha:=f);cases g:yM s l
 ·rw[g]at d;have i:sr rs gs s l=([],J):=by unfold sr;rw[if_neg (by rw[g];decide)]
  rw[i]at a1;exact TC R c a d a1
 rw[g]at d;obtain⟨v,v1,v2,v3,v4⟩:=TB (rs:=rs) (gs:=gs) g;have i:bQ bp v<=mg:=aL v4 f;rw[v1]at a1;have a2:=aaR (hr:=hr) (hg:=hg) (hk:=hk) (hs:=hs) (ha:=i);rw[v2]at a2;have t:=vP g;have a3:=aaR (rs:=[]) (hr:=cB _) (hg:=hg) (hk:=λr h=>absurd h uj) (hs:=hs) (ha:=f);rw[show sr [] gs s l=(l,I) by unfold sr;rw[if_pos g,Mk (λH=>rfl) _ s l [] (aY _) t]]at a3;obtain⟨T,m,fr⟩:=ajn q;generalize X:Z' (T % 2=0)=p;have a4:=aaR (rs:=⟨oP,[],0,p⟩::rs) (hr:=ZD) (hg:=hg) (hk:=λr h=>by
  rcases aP.1 h with rfl|h
  ·exact cB _
  ·exact hk r h) (hs:=hs) (ha:=f)
 have o:=aiK f f;have F:=aiK i i;rw[sj.2 rfl]at F o;have C:=amR (hs:=hs) (ha:=i) (hb:=f);rw[v3]at C;have V:sr (⟨oP,[],0,p⟩::rs) gs s l=(if p=I then l else [],I):=by
  unfold sr;rw[if_pos g];cases p
  ·rw[Tx λH=>Mm];rfl
  ·rw[Mk (λH=>Mm) _ s l [] (aY _) t];rfl
 rw[V]at a4;refine OD (W:=kg (⟨oP,[],0,p⟩::rs)) (E:=.list 0 J [tO ⟨oP,[],0,p⟩]) (ED:=kc (l.map (tZ 1))) (z:=((l.map bp).length:Int)) R c a d a1 a2 a3 a4 m fr X (jf 4 _ rfl (by decide)) (eQ 4 56 J [[.str oP,.list 1 I [],.int .i64 0,.bool p]] (rs.map tO) (by decide) (by simp only[aj,aE,aJ];omega)) (xP 4 J _ 0 (Nat.succ_pos _)) (λb=>by cases b<;>rfl) rfl rfl ?_ F C o ?_
 ·cases l with
  |nil=>exact .inl rfl
  |cons x l=>
   refine .inr ⟨by simp only[aW,aE];omega,amS f,?_⟩;obtain⟨k,n,Y,_⟩:=yf t (x:=x) aU;exact aer (e:=tZ 1 x) (es:=l.map (tZ 1)) hs hg (by rw[O8];exact Y)
 ·cases p
  ·exact .inr ⟨rfl,rfl⟩
  ·exact .inl ⟨rfl,o⟩
theorem Lw(code:M (M D))(b:code.length<=maxLen)(a:hO maxLen 16 code) :
  fP T 437 [.val J [.d (.list 1 I code)]]=Z ([.val J [.d (.bool I)]],[]):=
 alD (Vh b a) rfl rfl
end
end Go.Proofs.YthlpjklbafakfaaGreatDoor
