/- Part of the proof: a machine over plain data, its proof, the functions of the program run on symbols, what they answer. Condition: none. -/
import Derived.Test.YthlpjklbafakfaaGreatDoorZz18
import Derived.Test.YthlpjklbafakfaaGreatDoorZz21
set_option linter.unusedVariables false
set_option linter.unusedSimpArgs false
open List renaming length_map->aj,take_append_drop->bh,mem_singleton->bI,map_take->lI
open Nat renaming le_refl->au
open Option renaming some->Z
namespace Go.Proofs.YthlpjklbafakfaaGreatDoor
set_option maxRecDepth 100000
set_option maxHeartbeats 8000000
section
noncomputable def trD:M TR:=[⟨416,_,anw⟩,⟨430,_,akd⟩,⟨433,_,ake⟩,⟨434,_,akf⟩,⟨387,_,anj⟩,⟨390,_,aj8⟩,⟨415,_,anv⟩,⟨427,_,aka⟩,⟨428,_,akb⟩,⟨429,_,akc⟩,⟨414,_,anu⟩,⟨209,_,t209⟩,⟨396,_,afm⟩,⟨404,_,anm⟩,⟨413,_,afo⟩,⟨203,_,t203⟩,⟨208,_,t208⟩,⟨395,_,XS⟩,⟨405,_,ann⟩,⟨408,_,anp⟩,⟨412,_,ant⟩,⟨39,_,t39⟩,⟨74,_,t74⟩,⟨204,_,t204⟩,⟨205,_,t205⟩,⟨206,_,t206⟩,⟨207,_,t207⟩,⟨217,_,t217⟩,⟨218,_,t218⟩,⟨391,_,afl⟩,⟨392,_,abd⟩,⟨393,_,JB⟩,⟨394,_,FO⟩,⟨397,_,Ow⟩,⟨411,_,ans⟩,⟨202,_,t202⟩,⟨401,_,abf⟩,⟨409,_,anq⟩,⟨410,_,anr⟩,⟨400,_,afn⟩,⟨407,_,ano⟩,⟨398,_,abe⟩,⟨399,_,ank⟩,⟨402,_,abg⟩,⟨403,_,anl⟩,⟨406,_,EX⟩,⟨229,_,t229⟩,⟨231,_,t231⟩]
theorem akH:SmT bsC trD 200 60 416 (C2 4096)=Z [(0,.lst 12 4 222::C2 4096)]:=by kernel_rfl
theorem akI:SmT bsC trD 200 60 430 (C2 4096)=Z [(0,.lst 2 0 658::C2 4096)]:=by kernel_rfl
theorem ag1{p:Nat×M AV}{j:Nat}{a:M D}(h:CL [p] j a):j=p.1/\cd p.2 a:=by
 obtain⟨q,d,c,b⟩:=h;rw[bI]at d;rw[d]at c b;exact⟨c.symm,b⟩
theorem GJ{a:AV}{b:M AV}{e:M D}(h:cd (a::b) e):∃d c,e=d::c/\eU a d/\cd b c:=by
 cases e with
 |nil=>simp only[cd]at h
 |cons d c=>simp only[cd]at h;exact⟨d,c,rfl,h.1,h.2⟩
theorem am2{a:M D}(h:cd (C2 4096) a):∃s b,G 416 a=Z (0,az s::b)/\bQ aB s<=222/\hO maxLen 12 (s.map aB)/\cd (C2 4096) b:=by
 obtain⟨j,m,k,i⟩:=HP MY 60 416 _ _ akH a h;obtain⟨rfl,g⟩:=ag1 i;obtain⟨d,l,rfl,f,e⟩:=GJ g;obtain⟨es,rfl,a1,a2,a3,_⟩:=fw f;obtain⟨c,rfl⟩:=xi a1;rw[aj]at a3;exact⟨c,l,k,a3,a1,e⟩
theorem am8{a:M D}(h:cd (C2 4096) a):∃l b,G 430 a=Z (0,aZ l::b)/\bQ bp l<=658/\cd (C2 4096) b:=by
 obtain⟨j,n,k,i⟩:=HP MY 60 430 _ _ akI a h;obtain⟨rfl,g⟩:=ag1 i;obtain⟨d,m,rfl,f,e⟩:=GJ g;obtain⟨es,rfl,a1,a2,a3,_⟩:=fw f;obtain⟨c,rfl⟩:=KA a1;rw[aj]at a3;exact⟨c,m,k,a3,e⟩
theorem cu3{n:Nat}{d:M D}(h:cd (C2 n) d):∃a b c,d=[a,b,c]:=by
 obtain⟨a,b,c,h,_⟩:=g3 h;exact⟨a,b,c,h⟩
theorem am6{e:M D}(h:cd (C2 4096) e):∃s d,G 425 e=Z (0,az s::d)/\bQ aB s<=222/\hO maxLen 12 (s.map aB)/\(ckS s).1=0/\cd (C2 4096) d:=by
 obtain⟨s,d,o,q,n,f⟩:=am2 h;obtain⟨a,b,c,rfl⟩:=cu3 h;obtain⟨j,i,g,rfl⟩:=cu3 f;obtain⟨k,m,l⟩:=Z8 (c1:=j) (c2:=i) (c3:=g) s.length s (au _) (by omega);have p:bQ aB (s.take k)<=bQ aB s:=by
  have:=hY aB (s.take k) (s.drop k);rw[bh]at this;omega
 refine⟨s.take k,[j,i,g],dd aj9 rfl ?_,by omega,by rw[lI];exact (ow k n).1,l,f⟩;simp only[go_sem,aj9,o,m]
end
end Go.Proofs.YthlpjklbafakfaaGreatDoor
