/- Part of the proof: a machine over plain data, its proof, the functions of the program run on symbols, what they answer. Condition: none. -/
import Derived.Test.YthlpjklbafakfaaGreatDoorZz23
set_option linter.unusedVariables false
set_option linter.unusedSimpArgs false
open List renaming length_map->aj,mem_cons->aP,mem_cons_self->aU,not_mem_nil->uj
open Nat renaming le_trans->aL,zero_le->cB
open Option renaming some->Z,none->O
open Bool renaming true->I
namespace Go.Proofs.YthlpjklbafakfaaGreatDoor
set_option maxRecDepth 100000
set_option maxHeartbeats 8000000
section
theorem abC{t n:Nat}{lo:Nat}{a b c d:Int}{e:M D}(f:t=16)(g:n<=4096)(k:0<=a)(j:b<=8192)(h:cd [.lst t lo n,.int a b,.int c d] e):cd (C2 4096) e:=by
 subst f;obtain⟨o,m,l,rfl,g1,g2,g3⟩:=g3 h;obtain⟨es,rfl,a1,_,a2,a3⟩:=fw g1;obtain⟨i,rfl,q,p,_⟩:=eV g2;obtain⟨h,rfl,_,_,c1⟩:=eV g3;exact Kx a1 (by omega) (by omega) ⟨by omega,by omega⟩ c1
def f425(c:M AV):u Out:=match YI c with
 |[.lst t _ n,.int a b,.int _ _]=>if t=16/\n<=4096/\0<=a/\b<=8192 then Z [(0,.lst 12 0 222::C2 4096)] else O
 |_=>O
theorem Zg(a:M AV)(o:Out)(h:f425 a=Z o)(d:M D)(b:cd a d):∃j e,G 425 d=Z (j,e)/\CL o j e:=by
 unfold f425 at h
 split at h
 ·rename_i f;have b:=vw b;rw[f]at b
  split at h
  ·rename_i c;cases h;obtain⟨s,m,l,k,i,_,g⟩:=am6 (abC c.1 c.2.1 c.2.2.1 c.2.2.2 b);refine⟨_,_,l,_,aU,rfl,?_⟩;simp only[cd];refine⟨j7 (t:=12) i (cB _) ?_ (by omega),g⟩;rw[aj];exact k
  ·cases h
 ·cases h
def f432(c:M AV):u Out:=match YI c with
 |[.lst t _ n,.int a b,.int _ _,.lst t2 _ m]=>if t=16/\n<=4096/\0<=a/\b<=8192/\t2=12/\m<=1000 then Z [(0,.lst 2 0 14000::C2 4096)] else O
 |_=>O
theorem Zi(e:M AV)(o:Out)(h:f432 e=some o)(i:M D)(f:cd e i):∃j k,G 432 i=some (j,k)/\CL o j k:=by
 unfold f432 at h
 split at h
 ·rename_i t lo n a b c d t2 q m y;have f:=vw f;rw[y]at f
  split at h
  ·rename_i A;cases h;obtain⟨c1,Q,P,N,rfl,L⟩:=A;obtain⟨K,H,F,R,rfl,x,w,v,r⟩:=g4 f;have g:cd (C2 4096) [K,H,F]:=abC (lo:=lo) (c:=c) (d:=d) c1 Q P N (by simp only[cd];exact⟨x,w,v,trivial⟩);obtain⟨es,rfl,a1,_,a3,_⟩:=fw r;obtain⟨s,rfl⟩:=xi a1;rw[aj]at a3;obtain⟨l,S,C,p,B⟩:=am9 g (s:=s) (aL a3 L);refine⟨_,_,C,_,aU,rfl,?_⟩;simp only[cd];refine⟨j7 (t:=2) (aam l (Z:=14000) (by decide) (by decide) p) (cB _) ?_ (by omega),B⟩;rw[aj];exact p
  ·cases h
 ·cases h
def bs2:YS:=J8 425 f425 (J8 432 f432 bsC)
theorem acF:J6 G bs2:=vB Zg (vB Zi MY)
noncomputable def trV:M TR:=[⟨435,_,anx⟩,⟨390,_,aj8⟩,⟨430,_,akd⟩,⟨433,_,ake⟩,⟨434,_,akf⟩,⟨427,_,aka⟩,⟨428,_,akb⟩,⟨429,_,akc⟩]
theorem akJ:SmT bs2 trV 200 60 435 [.lst 16 0 4096]=Z [(2,[.lst 12 0 222,.lst 2 0 14000,.lst 1 0 4,.lst 0 0 10]),(3,[.lst 12 0 222,.lst 2 0 14000,.lst 1 1 70,.lst 0 0 10]),(0,[.lst 12 0 222,.lst 2 0 658,.lst 1 0 4,.lst 0 0 10]),(1,[.lst 12 0 222,.lst 2 0 658,.lst 1 1 70,.lst 0 0 10])]:=by kernel_rfl
theorem am_{code:M (M D)}(q:hO maxLen 16 code)(o:code.length+nG code<=4096):∃j e,G 435 [.list 1 I code]=Z (j,e)/\j < 4/\cd [.lst 12 0 222,.lst 2 0 14000,.lst 1 0 70,.lst 0 0 10] e:=by
 obtain⟨j,e,s,p,g,r,f⟩:=HP acF 60 435 _ _ akJ [.list 1 I code] (by simp only[cd,and_true];exact j7 (t:=16) q (cB _) o (by omega));refine⟨j,e,s,?_,?_⟩
 ·simp only[aP,uj,or_false]at g;rcases g with rfl|rfl|rfl|rfl<;>(rw[<- r];decide)
 ·have up:∀{a b c d:Nat} {e:M D},b<=14000->d<=70->cd [.lst 12 0 222,.lst 2 a b,.lst 1 c d,.lst 0 0 10] e->cd [.lst 12 0 222,.lst 2 0 14000,.lst 1 0 70,.lst 0 0 10] e:=by
   intro a b c d e y hd h;obtain⟨K,H,F,C,rfl,n,m,l,k⟩:=g4 h;obtain⟨B,rfl,i,x,w,v⟩:=fw m;obtain⟨A,rfl,y1,y2,y3,y4⟩:=fw l;simp only[cd,and_true];exact⟨n,j7 (t:=2) i (cB _) (by omega) (by omega),j7 (t:=1) y1 (cB _) (by omega) (by omega),k⟩
  simp only[aP,uj,or_false]at g;rcases g with rfl|rfl|rfl|rfl
  ·exact up (by decide) (by decide) f
  ·exact up (by decide) (by decide) f
  ·exact up (by decide) (by decide) f
  ·exact up (by decide) (by decide) f
end
end Go.Proofs.YthlpjklbafakfaaGreatDoor
