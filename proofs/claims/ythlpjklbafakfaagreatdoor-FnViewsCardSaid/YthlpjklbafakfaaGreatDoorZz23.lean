/- Part of the proof: a machine over plain data, its proof, the functions of the program run on symbols, what they answer. Condition: none. -/
import Derived.Test.YthlpjklbafakfaaGreatDoorZz22
set_option linter.unusedVariables false
set_option linter.unusedSimpArgs false
open List renaming length_map->aj,cons_append->aq,nil_append->ay,take_append_drop->bh,length_take->bj,mem_singleton->bI,length_eq_one_iff->db,drop_of_length_le->eJ,take_of_length_le->gT,map_take->lI
open Nat renaming lt_succ_self->aY,zero_le->cB
open Option renaming some->Z
open Bool renaming true->I,false->J
open Decidable renaming decide->Z'
namespace Go.Proofs.YthlpjklbafakfaaGreatDoor
set_option maxRecDepth 100000
set_option maxHeartbeats 8000000
section
theorem aaG{l:M aD}{i:Nat}{x:aD}(h:nth l i=Z x):aK (.v8 3 I) [aZ l,.int .i64 (i:Int),.int .i64 ((i+1:Nat):Int)]=Z (aZ [x]):=by
 have a:=bF h;have d:dI (.int .i64 (i:Int))=Z i:=by simp[dI]
 have c:dI (.int .i64 ((i+1:Nat):Int))=Z (i+1):=by simp[dI];omega
 have b:(l.take (i+1)).drop i=[x]:=by
  rw[cx _ _ _ h,List.drop_append_of_le_length (by rw[bj];omega)];rw[eJ (by rw[bj];omega)];rfl
 simp only[aK,d,c,aj];rw[if_pos ⟨trivial,Nat.le_succ i,a⟩,<- lI,<- List.map_drop,b]
theorem Z9{d:M ah}{raw:M aD}{c1 c2 c3 mk:D}(hd:bQ aB d<=2000000)(hr:bQ bp raw<=100000):∀m i (l:M aD),i+m=raw.length->(∀y∈l,Kd d y)->bQ bp l<=21 * bQ bp (raw.take i)->∀h,(h=0\/h=1)->
  ∃k c p,bK (lB G nQ) (h,[aZ l,aZ raw,.int .i64 (i:Int),c1,c2,c3,mk,az d,aZ raw])=Z (k,[aZ c,aZ raw,p,.bool J,c1,c2,c3,mk,az d,aZ raw])/\k < 2/\(∀y∈c,Kd d y)/\bQ bp c<=21 * bQ bp raw:=by
 have K:raw.length<=mg:=by simp only[bQ,mg]at *;omega
 intro m
 induction m with
 |zero=>
  intro i l S q A h w;have e:¬i < raw.length:=by omega
  rw[gT (by omega)]at A;rcases w with rfl|rfl
  ·refine⟨0,l,.int .i64 (i:Int),aF ?_,by omega,q,A⟩;simp only[go_sem,bn,nQ,aj,e]
  ·refine⟨1,l,.int .i64 (i:Int),aF ?_,by omega,q,A⟩;simp only[go_sem,bn,nQ,aj,e]
 |succ m H=>
  intro i l S q A h w;have e:i < raw.length:=by omega
  have B:=dV (l:=raw) (i:=i) e;generalize raw[i]'e=x at B;have r:=wj e K;have t:=aaG B;have GW:=eh bp (bz B);have YC:bQ bp (raw.take (i+1))=bQ bp (raw.take i)+bQ bp [x]:=by rw[cx _ _ _ B,hY]
  have R:bQ bp [x]=fN (bp x)+1:=by rw[fJ];rfl
  obtain⟨j,out,ok,f,V,U,hz⟩:=ae4 _ d [x] (aY _) hd (by omega);have o:=H (i+1) l (by omega) q (by omega) 1 (.inr rfl);have N:=H (i+1) l (by omega) q (by omega) 0 (.inl rfl);have T:bQ bp (raw.take i)<=bQ bp raw:=by
   have:=hY bp (raw.take i) (raw.drop i);rw[bh]at this;omega
  have C:∀a:aD,aK (.el 3) [aZ [a],.int .i64 0]=Z (.list 0 J [bp a]):=λa=>pG (l:=[a]) (i:=0) rfl;have fin:∀{s F:Nat×M D} {l1:M aD},lB G nQ s=Z (.go F)->(∃k c p,bK (lB G nQ) F=Z (k,[aZ c,aZ raw,p,.bool J,c1,c2,c3,mk,az d,aZ raw])/\k < 2/\(∀y∈c,Kd d y)/\bQ bp c<=21 * bQ bp raw)->
    ∃k c p,bK (lB G nQ) s=Z (k,[aZ c,aZ raw,p,.bool J,c1,c2,c3,mk,az d,aZ raw])/\k < 2/\(∀y∈c,Kd d y)/\bQ bp c<=21 * bQ bp raw:=by
   intro s F l1 g ⟨k,c,p,X,W⟩;exact⟨k,c,p,(bB g).trans X,W⟩
  rcases V with ⟨rfl,rfl,rfl⟩|⟨rfl,rfl⟩
  ·rcases w with rfl|rfl
   ·refine fin (l1:=l) ?_ N;simp only[go_sem,bn,nQ,aj,e,r,t,f,oy,ov]
   ·refine fin (l1:=l) ?_ o;simp only[go_sem,bn,nQ,aj,e,r,t,f,oy,ov]
  ·by_cases L:out.length=1
   ·obtain⟨a,rfl⟩:=db.1 L;have h0:bQ bp [a]=fN (bp a)+1:=by rw[fJ];rfl
    have Y:=jJ a;have v:Kd d a:=U a (bI.2 rfl);obtain⟨b,n⟩:=aje (d:=d) (l:=l) (x:=a) (by simp only[mg];omega) (by simp only[mg];omega) (by simp only[bQ,mg]at *;omega) q v;have put:=H (i+1) (qX d l a) (by omega) (λy Q=>by
     rcases LZ Q with h|rfl
     ·exact q y h
     ·exact v) (by have:=QC d l a;omega) 1 (.inr rfl)
    simp only[aT a,aq,ay]at n;have C:=C a;refine fin (l1:=l) ?_ put;rcases w with rfl|rfl
    ·simp only[go_sem,bn,nQ,aj,e,r,t,f,oy,ov,C,cR,aT a,n]
    ·simp only[go_sem,bn,nQ,aj,e,r,t,f,oy,ov,C,cR,aT a,n]
   ·have P:Z' (((out.length:Nat):Int)=1)=J:=by simp;omega
    refine fin (l1:=l) ?_ o;rcases w with rfl|rfl
    ·simp only[go_sem,bn,nQ,aj,e,r,t,f,oy,ov,P]
    ·simp only[go_sem,bn,nQ,aj,e,r,t,f,oy,ov,P]
theorem am9{g:M D}(h:cd (C2 4096) g){s:M ah}(w:bQ aB s<=1000):∃l f,G 432 (g++[az s])=Z (0,aZ l::f)/\bQ bp l<=14000/\cd (C2 4096) f:=by
 obtain⟨raw,f,m,x,j⟩:=am8 h;obtain⟨a,b,c,rfl⟩:=cu3 h;obtain⟨p,o,n,rfl⟩:=cu3 j;have e:=q81 (l:=s) (by simp only[mg];omega);have t:=nH (es:=s);obtain⟨k,q,v,g1,g2,g3,g4⟩:=Z9 (d:=dk s) (raw:=raw) (c1:=p) (c2:=o) (c3:=n) (mk:=aZ []) (by omega) (by omega) raw.length 0 [] (by omega) (λy r=>by cases r) (cB _) 0 (.inl rfl);rw[n0]at g1;have i:aK (.mW 3 J) []=Z (aZ []):=rfl;refine⟨q,[p,o,n],dd afq rfl ?_,by omega,j⟩;have:k=0\/k=1:=by omega
 rcases this with rfl|rfl
 ·simp only[go_sem,afq,e,i,m,g1]
 ·simp only[go_sem,afq,e,i,m,g1]
end
end Go.Proofs.YthlpjklbafakfaaGreatDoor
