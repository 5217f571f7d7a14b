/- Part of the proof: a machine over plain data, its proof, the functions of the program run on symbols, what they answer. Condition: none. -/
import Derived.Test.YtnnjajingjfjiaaGreatDoorZz24
set_option linter.unusedVariables false
set_option linter.unusedSimpArgs false
set_option linter.unusedSectionVars false
open Bool renaming and_eq_true->ai,true->I,false->J
open List renaming map_nil->bD
open Nat renaming lt_succ_self->aP
open SizeOf renaming sizeOf->aw
open Option renaming some->Z
namespace Go.Proofs.YtnnjajingjfjiaaGreatDoor
set_option maxRecDepth 100000
set_option maxHeartbeats 4000000
section
noncomputable def Bu(s:M ah)(a b:M az):M ck×Bool:=if (qW s a && qW s b)=I then (kL uF (aw b+1) s a b,I) else ([],J)
section
variable {s:M ah} {a b:M az} (hs:bK ax s+bK aU a+bK aU b<=mg)
include hs
theorem aoY:G 375 [aB s,aE a,aE b]=Z (0,[dm (Bu s a b).1,.bool (Bu s a b).2]):=by
 have c:=ON (s:=s) (l:=a) (by omega) (by omega);have e:=ON (s:=s) (l:=b) (by omega) (by omega);refine ct ade rfl ?_;unfold Bu;cases d:qW s a
 ·rw[d]at c;simp only[go_sem,ade,c,AG]
 ·cases f:qW s b
  ·rw[d]at c;rw[f]at e;simp only[go_sem,ade,c,e,AG]
  ·have g:=agB (aw b+1) s a b (aP _) hs (uD d) (uD f);rw[d]at c;rw[f]at e;simp only[go_sem,ade,c,e,g]
theorem ao0:G 379 [aB s,aE a,aE b]=Z (0,[dm (Bu s a b).1,.bool (Bu s a b).2]):=by
 have c:=OO (s:=s) (l:=a) (by omega) (by omega);have f:=OO (s:=s) (l:=b) (by omega) (by omega);refine ct adf rfl ?_;unfold Bu;cases d:qW s a
 ·rw[d]at c;simp only[go_sem,adf,c,AG]
 ·cases e:qW s b
  ·rw[d]at c;rw[e]at f;simp only[go_sem,adf,c,f,AG]
  ·have g:=agC (aw b+1) s a b (aP _) hs (uD d) (uD e);rw[<- Xu _ _ _ _ (uD d) (uD e)]at g;rw[d]at c;rw[e]at f;simp only[go_sem,adf,c,f,g]
end
noncomputable def zd(s:M ah)(l:M az)(es:M ck):M ck×Bool:=if (AI s l es).2=0 then Bu s (AI s l es).1 l else ([],J)
theorem aa8{s:M ah}{a b:M az}(e:bK ax s+bK aU a+bK aU b<=mg):dw mg 3 ((Bu s a b).1.map cK)/\(Bu s a b).1.length<=mg/\aT ((Bu s a b).1.map cK)<=4000000000000:=by
 unfold Bu;split
 ·rename_i h;simp only[ai]at h;obtain⟨c,d⟩:=h;unfold qW uE at c d;simp only[ai,decide_eq_true_eq]at c d;have g:=aeq (ix:=uF) (aw b+1) (s:=s) (a:=a) (b:=b) (by omega) c.2.1;have f:=DK (ix:=uF) (m:=aw b+1) (s:=s) (a:=a) (b:=b);refine⟨dw.xP (aer _ e),?_,?_⟩
  ·simp only[bK]at e;dsimp only;omega
  ·have:=c.2.1;have:=d.2.1;dsimp only;omega
 ·exact⟨by simp only[bD,dw],by simp,by simp[aT]⟩
section
variable {s:M ah} {l:M az} {es:M ck} (hs:bK ax s+(bK aU l+zE es)+bK aU l<=mg)
include hs
theorem LB:bK ax s+bK aU (AI s l es).1+bK aU l<=mg:=by
 have:=Ci (s:=s) (l:=l) (es:=es);omega
theorem acS:dw mg 3 ((zd s l es).1.map cK)/\(zd s l es).1.length<=mg/\aT ((zd s l es).1.map cK)<=4000000000000:=by
 unfold zd;split
 ·exact aa8 (LB hs)
 ·exact⟨by simp only[bD,dw],by simp,by simp[aT]⟩
theorem aoZ:G 376 [aB s,aE l,dm es]=Z (0,[dm (zd s l es).1,.bool (zd s l es).2]):=by
 have a:=agx (s:=s) (l:=l) (es:=es) (by omega) (by omega);have c:=aoY (LB hs);refine ct agQ rfl ?_;unfold zd;by_cases h:(AI s l es).2=0
 ·rw[if_pos h];rw[h]at a;generalize (AI s l es).1=o at *;have b:=plb (Bu s o l).2;simp only[go_sem,agQ,a,c,b]
 ·rw[if_neg h];simp only[go_sem,agQ,a,h,AG]
theorem ao1:G 380 [aB s,aE l,dm es]=Z (0,[dm (zd s l es).1,.bool (zd s l es).2]):=by
 have a:=agA (s:=s) (l:=l) (es:=es) (by omega) (by omega);have c:=ao0 (LB hs);refine ct agS rfl ?_;unfold zd;by_cases h:(AI s l es).2=0
 ·rw[if_pos h];rw[h]at a;generalize (AI s l es).1=o at *;have b:=plb (Bu s o l).2;simp only[go_sem,agS,a,c,b]
 ·rw[if_neg h];simp only[go_sem,agS,a,h,AG]
end
end
end Go.Proofs.YtnnjajingjfjiaaGreatDoor
