/- Part of the proof: a machine over plain data, its proof, the functions of the program run on symbols, what they answer. Condition: none. -/
import Derived.Test.YthlpjklbafakfaaGreatDoorZz17
set_option linter.unusedVariables false
set_option linter.unusedSimpArgs false
open BitVec renaming ofInt->dK
open Bool renaming and_eq_true->af,false_eq_true->aC,not_eq_true'->bY,or_eq_true->dr,not_false->dZ,and_true->ed,or_false->ew,not_true->eP,false_or->fh,or_true->ft,and_false->fO,true_or->ir,true->I,false->J
open ByteArray renaming size_append->uq
open Int renaming toNat_natCast->cq,ediv_le_self->oT,emod_lt_of_pos->rB,emod_nonneg->wH,le_refl->yb
open List renaming length_map->aj,cons_append->aq,nil_append->ay,length_cons->aE,length_nil->aJ,mem_cons->aP,append_nil->aQ,length_append->aR,mem_append->aS,mem_cons_self->aU,map_cons->aW,sizeOf_lt_of_mem->aX,all_eq_true->bg,take_append_drop->bh,length_take->bj,mem_cons_of_mem->bk,getElem?_eq_some_iff->bm,append_assoc->bE,mem_singleton->bI,all_cons->bJ,take_length->bN,map_append->bR,length_drop->bT,range->bW,map_nil->cE,length_eq_zero_iff->cG,drop_zero->cK,take_zero->dw,drop_of_length_le->eJ,take_succ_cons->fE,length_singleton->gh,take_of_length_le->gT,drop_drop->kO,take_take->kP,any_cons->lH,map_take->lI,length_pos_iff->mK,length_set->qa,drop_eq_getElem_cons->sw,range'->sF,takeWhile_prefix->wJ,drop_succ_cons->zG
open List.cons renaming sizeOf_spec->bo,injEq->bZ
open Nat renaming le_refl->au,lt_irrefl->aG,le_trans->aL,lt_succ_self->aY,zero_add->bD,zero_le->cB,mul_le_mul_right->ee,add_zero->eu,beq->fj,eq_of_beq_eq_true->gl,ble->gV,le_of_ble_eq_true->ib,beq_eq->rE,ble_eq_true_of_le->w_
open Option renaming map_eq_some_iff->ak,map_some->aH,isSome_none->bO,isSome_some->cZ,getD_none->dz,getD_some->dB,some->Z,none->O
open Option.some renaming injEq->aa
open SizeOf renaming sizeOf->av
open Decidable renaming decide->Z'
namespace Go.Proofs.YthlpjklbafakfaaGreatDoor
set_option maxRecDepth 100000
set_option maxHeartbeats 4000000
set_option maxHeartbeats 8000000
section
def eqA:z:=⟨#[61]⟩
def I6:z:=⟨#[91]⟩
def rbA:z:=⟨#[93]⟩
def Oe:z:=⟨#[47]⟩
def ddA:z:=⟨#[46,46]⟩
theorem QY:(⟨[61].toArray⟩:z)=eqA:=(rfl)
theorem w8:(⟨[91].toArray⟩:z)=I6:=(rfl)
theorem QZ:(⟨[93].toArray⟩:z)=rbA:=(rfl)
theorem oR:(⟨[47].toArray⟩:z)=Oe:=(rfl)
theorem HG:(⟨[46,46].toArray⟩:z)=ddA:=(rfl)
def FI(L:M gL)(i:Nat):Nat:=bQ qi (L.take i)
theorem W0{L:M gL}{i:Nat}{x:gL}(h:nth L i=Z x):FI L (i+1)=FI L i+1+x.text.size:=by
 unfold FI;rw[cx _ _ _ h,hY,fJ,QT];simp[bQ,nG];omega
theorem WZ(L:M gL)(i:Nat):FI L i<=bQ qi L:=by
 have:=hY qi (L.take i) (L.drop i);rw[bh]at this;unfold FI;omega
theorem Jp{L:M gL}{i:Nat}(h:i < L.length):FI L (i+1)=FI L i+1+(tkT L i).size:=by
 have a:=dV (l:=L) h;rw[W0 a];unfold tkT;rw[a]
theorem EY{L:M gL}{i:Nat}{bad:Bool}{k:Int}(b:i<=L.length):(oB L i bad k).1.size+FI L i<=FI L (oB L i bad k).2.1/\i<=(oB L i bad k).2.1/\(oB L i bad k).2.1<=L.length/\
  ((oB L i bad k).2.2=J->(oB L i bad k).1.size+FI L i+1<=FI L (oB L i bad k).2.1):=by
 unfold oB;split
 ·rename_i h;have a:=(jz h).1;have:=Jp a;exact⟨by dsimp only;omega,by dsimp only;omega,a,λ_=>by dsimp only;omega⟩
 ·have c:oP.size=0:=rfl;exact⟨by dsimp only;omega,au _,b,λh=>by cases h⟩
theorem WD{L:M gL}{i:Nat}{bad:Bool}{k:Int}{t:z}(b:i<=L.length):FI L i<=FI L (MF L i bad k t)/\i<=MF L i bad k t/\MF L i bad k t<=L.length:=by
 unfold MF;split
 ·rename_i h;have a:=(jz h).1;have:=Jp a;exact⟨by omega,by omega,a⟩
 ·exact⟨au _,au _,b⟩
def tA(L:M gL)(i:Nat)(a:Bool):=oB L i a 1
def tB(L:M gL)(i:Nat)(a:Bool):Nat×Bool:=(MF L (tA L i a).2.1 (tA L i a).2.2 4 eqA,(tA L i a).2.2 ||!oQ L (tA L i a).2.1 (tA L i a).2.2 4 eqA)
def tC(L:M gL)(i:Nat)(a:Bool):=oB L (tB L i a).1 (tB L i a).2 3
def tD(L:M gL)(i:Nat)(a:Bool):Nat×Bool:=(MF L (tC L i a).2.1 (tC L i a).2.2 4 rbA,(tC L i a).2.2 ||!oQ L (tC L i a).2.1 (tC L i a).2.2 4 rbA)
def gP(L:M gL)(i:Nat)(a:Bool):iH×Nat×Bool:=(⟨(tA L i a).1,(tC L i a).1⟩,tD L i a)
theorem zi{L:M gL}{i:Nat}{bad:Bool}(a:i<=L.length):fN (jW (gP L i bad).1)+FI L i<=FI L (gP L i bad).2.1/\i<=(gP L i bad).2.1/\(gP L i bad).2.1<=L.length:=by
 have a1:=EY (bad:=bad) (k:=1) a;have a2:=WD (bad:=(tA L i bad).2.2) (k:=4) (t:=eqA) a1.2.2.1;have a3:=EY (bad:=(tB L i bad).2) (k:=3) a2.2.2;have a4:=WD (bad:=(tC L i bad).2.2) (k:=4) (t:=rbA) a3.2.2.1;rw[EW];unfold gP tD tC tB tA at *;dsimp only at *;omega
def pv(L:M gL):Nat->Nat->Bool->M iH->M iH×Nat×Bool
 |0,i,bad,acc=>(acc,i,bad)
 |m+1,i,bad,acc=>if oQ L i bad 4 I6=I then pv L m (gP L (i+1) bad).2.1 (gP L (i+1) bad).2.2 (acc++[(gP L (i+1) bad).1]) else (acc,i,bad)
theorem X0{L:M gL}:∀{m i:Nat} {bad:Bool} {acc:M iH},i<=L.length->bQ jW (pv L m i bad acc).1+FI L i<=bQ jW acc+FI L (pv L m i bad acc).2.1/\i<=(pv L m i bad acc).2.1/\(pv L m i bad acc).2.1<=L.length
 |0,i,bad,acc,a=>⟨au _,au _,a⟩
 |m+1,i,bad,acc,a=>by
  unfold pv;split
  ·rename_i h;have b:=(jz h).1;have e:=Jp b;have d:=zi (bad:=bad) (show i+1<=L.length from b);have c:=X0 (m:=m) (bad:=(gP L (i+1) bad).2.2) (acc:=acc++[(gP L (i+1) bad).1]) d.2.2;rw[hY,fJ]at c;have:bQ jW []=0:=rfl;omega
  ·exact⟨au _,au _,a⟩
def wF(L:M gL)(i:Nat):kS×Nat×Bool:=(⟨(oB L i J 1).1,(pv L L.length (oB L i J 1).2.1 (oB L i J 1).2.2 []).1⟩,(pv L L.length (oB L i J 1).2.1 (oB L i J 1).2.2 []).2)
theorem Ol{L:M gL}{i:Nat}(a:i<=L.length):fN (eS (wF L i).1)+FI L i<=FI L (wF L i).2.1/\i<=(wF L i).2.1/\(wF L i).2.1<=L.length:=by
 have a1:=EY (bad:=J) (k:=1) a;have a2:=X0 (m:=L.length) (bad:=(oB L i J 1).2.2) (acc:=[]) a1.2.2.1;rw[pZ];have:bQ jW []=0:=rfl;unfold wF;dsimp only;omega
def vr(L:M gL):Nat->Nat->Bool->M kS->M kS×Nat×Bool
 |0,i,bad,acc=>(acc,i,bad)
 |m+1,i,bad,acc=>if bad=I then (acc,i,bad) else if oQ L (wF L i).2.1 (wF L i).2.2 4 Oe=I then vr L m ((wF L i).2.1+1) (wF L i).2.2 (acc++[(wF L i).1]) else (acc++[(wF L i).1],(wF L i).2)
theorem Oj{L:M gL}:∀{m i:Nat} {bad:Bool} {acc:M kS},i<=L.length->bQ eS (vr L m i bad acc).1+FI L i<=bQ eS acc+FI L (vr L m i bad acc).2.1+1/\i<=(vr L m i bad acc).2.1/\(vr L m i bad acc).2.1<=L.length
 |0,i,bad,acc,a=>⟨by dsimp only[vr];omega,au _,a⟩
 |m+1,i,bad,acc,a=>by
  have c:=Ol a;have f:bQ eS []=0:=rfl;unfold vr;split
  ·exact⟨by dsimp only;omega,au _,a⟩
  split
  ·rename_i h;have b:=(jz h).1;have e:=Jp b;have d:=Oj (m:=m) (bad:=(wF L i).2.2) (acc:=acc++[(wF L i).1]) (show (wF L i).2.1+1<=L.length from b);rw[hY,fJ]at d;omega
  ·refine⟨?_,c.2.1,c.2.2⟩;dsimp only;rw[hY,fJ];omega
def uo(L:M gL):Nat->Nat->Bool->Nat->Nat×Nat×Bool
 |0,i,bad,a=>(a,i,I)
 |m+1,i,bad,a=>if oQ L i bad 4 ddA=I then (if oQ L (i+1) bad 4 Oe=I then uo L m (i+2) bad (a+1) else (a+1,i+1,J)) else (a,i,I)
theorem OC{L:M gL}:∀{m i:Nat} {bad:Bool} {u:Nat},i<=L.length->i<=(uo L m i bad u).2.1/\(uo L m i bad u).2.1<=L.length/\(uo L m i bad u).1+i<=u+(uo L m i bad u).2.1
 |0,i,bad,u,a=>⟨au _,a,au _⟩
 |m+1,i,bad,u,a=>by
  unfold uo;split
  ·rename_i h;have d:=(jz h).1;split
   ·rename_i c;have b:=(jz c).1;have:=OC (m:=m) (bad:=bad) (u:=u+1) (show i+2<=L.length from b);omega
   ·exact⟨Nat.le_succ _,d,by dsimp only;omega⟩
  ·exact⟨au _,a,au _⟩
def Tb(L:M gL)(i:Nat)(a:Bool):iG×Nat×Bool:=
 if oQ L i a 4 Oe=I then
  (if oQ L (i+1) a 1 oP=I then (⟨I,0,(vr L (L.length+1) (i+1) a []).1⟩,(vr L (L.length+1) (i+1) a []).2) else (⟨I,0,[]⟩,i+1,a))
 else if (uo L (L.length+1) i a 0).2.2=I then
  (⟨J,(uo L (L.length+1) i a 0).1,(vr L (L.length+1) (uo L (L.length+1) i a 0).2.1 a []).1⟩,(vr L (L.length+1) (uo L (L.length+1) i a 0).2.1 a []).2)
 else (⟨J,(uo L (L.length+1) i a 0).1,[]⟩,(uo L (L.length+1) i a 0).2.1,a)
def Ev(L:M gL)(i:Nat)(a:Bool):iG×Nat×Bool:=((Tb L i a).1,(Tb L i a).2.1,(Tb L i a).2.2 ||!jv (Tb L i a).1)
theorem WR{L:M gL}{i:Nat}{bad:Bool}(b:i<=L.length):fN (ej (Tb L i bad).1)<=bQ qi L+1/\(Tb L i bad).2.1<=L.length:=by
 rw[pY];have e:bQ eS []=0:=rfl;unfold Tb;split
 ·rename_i h;have a:=(jz h).1;split
  ·have d:=Oj (m:=L.length+1) (bad:=bad) (acc:=[]) (show i+1<=L.length from a);have c:=WZ L (vr L (L.length+1) (i+1) bad []).2.1;dsimp only;omega
  ·exact⟨by dsimp only;omega,a⟩
 ·have a:=OC (m:=L.length+1) (bad:=bad) (u:=0) b;split
  ·have d:=Oj (m:=L.length+1) (bad:=bad) (acc:=[]) a.2.1;have c:=WZ L (vr L (L.length+1) (uo L (L.length+1) i bad 0).2.1 bad []).2.1;dsimp only;omega
  ·exact⟨by dsimp only;omega,a.2.1⟩
def qW(s:z):iG×Bool:=
 let p:=Ev (ue s).1 0 (Z' (0<=(ue s).2))
 if p.2.2=J/\p.2.1=(ue s).1.length then (p.1,I) else (⟨J,0,[]⟩,J)
end
section
theorem aay(a:z):aK .pl [.str a]=Z (.bool J):=(rfl)
theorem P7(a b:z):aK (.mW 2 I) [.str a,.str b]=Z (fq [⟨a,b⟩]):=by simp[aK,chunk,cD,D.plain,jW]
theorem OR{l:M iH}(h:l.length<=mg)(t:iH):aK (.app 2 32) [fq l,fq [t]]=Z (fq (l++[t])):=by
 rw[eQ 2 32 I _ _ (by decide) (by simp only[mg,aj,aE,aJ]at *;omega),fq,bR]
theorem P6(a:z)(b:M iH):aK (.mW 2 J) [.str a,fq b]=Z (cC [⟨a,b⟩]):=by
 rw[jf 2 _ rfl (by decide)];rfl
theorem abB{l:M kS}(h:l.length<=mg)(t:kS):aK (.app 2 40) [cC l,cC [t]]=Z (cC (l++[t])):=by
 rw[eQ 2 40 J _ _ (by decide) (by simp only[mg,aj,aE,aJ]at *;omega),cC,bR]
section
variable {L:M gL} (hL:L.length<=mg) {a b c d name_q:D} {o:Int}
include hL
theorem CE{i:Nat}{bad:Bool}(h:oQ L i bad 4 I6=I) :
  G 401 (cP L i bad o++[.str I6])=Z (0,.bool I::cP L (i+1) bad o)/\
  G 398 (cP L (i+1) bad o++[.int .i64 1])=Z (0,.str (tA L (i+1) bad).1::cP L (tA L (i+1) bad).2.1 (tA L (i+1) bad).2.2 o)/\
  G 402 (cP L (tA L (i+1) bad).2.1 (tA L (i+1) bad).2.2 o++[.str eqA])=Z (0,cP L (tB L (i+1) bad).1 (tB L (i+1) bad).2 o)/\
  G 398 (cP L (tB L (i+1) bad).1 (tB L (i+1) bad).2 o++[.int .i64 3])=Z (0,.str (tC L (i+1) bad).1::cP L (tC L (i+1) bad).2.1 (tC L (i+1) bad).2.2 o)/\
  G 402 (cP L (tC L (i+1) bad).2.1 (tC L (i+1) bad).2.2 o++[.str rbA])=Z (0,cP L (tD L (i+1) bad).1 (tD L (i+1) bad).2 o):=by
 have e:=FJ (i:=i) (bad:=bad) (o:=o) hL (t:=I6);rw[h]at e;unfold MF at e;rw[if_pos h]at e;exact⟨e,ae1 hL,ajj hL,ae1 hL,ajj hL⟩
theorem Sv:∀(m i:Nat) (bad:Bool) (e:M iH),L.length<=i+m->i<=L.length->e.length<=i->
  bK (lB G tg) (1,[a,b,c,d,name_q,.int .i64 (i:Int),.bool bad,.int .i64 o,fq e,eb L]) =
   Z (1,[.bool J,a,b,c,d,name_q,.int .i64 ((pv L m i bad e).2.1:Int),.bool (pv L m i bad e).2.2,.int .i64 o,fq (pv L m i bad e).1,eb L]):=by
 intro m
 induction m with
 |zero=>
  intro i bad e y x w;have h:oQ L i bad 4 I6=J:=by
   cases h:oQ L i bad 4 I6
   ·rfl
   ·have:=(jz h).1;omega
  have f:=FJ (i:=i) (bad:=bad) (o:=o) hL (t:=I6);rw[h]at f;unfold MF at f;rw[if_neg (by rw[h];simp)]at f;simp only[cP,aq,ay]at f;refine aF ?_;simp only[go_sem,bn,tg,w8,f,pv]
 |succ m r=>
  intro i bad e y x w;cases h:oQ L i bad 4 I6
  ·have f:=FJ (i:=i) (bad:=bad) (o:=o) hL (t:=I6);rw[h]at f;unfold MF at f;rw[if_neg (by rw[h];simp)]at f;simp only[cP,aq,ay]at f;unfold pv;rw[if_neg (by rw[h];simp)];refine aF ?_;simp only[go_sem,bn,tg,w8,f]
  ·obtain⟨q,p,n,k,j⟩:=CE (o:=o) hL h;have v:=zi (bad:=bad) (show i+1<=L.length from (jz h).1);simp only[cP,aq,ay]at q p n k j;have g:=OR (l:=e) (by omega) (gP L (i+1) bad).1;have s:=r (gP L (i+1) bad).2.1 (gP L (i+1) bad).2.2 (e++[(gP L (i+1) bad).1]) (by omega) v.2.2 (by rw[aR,gh];omega);unfold pv;rw[if_pos h];rw[<- s];unfold gP at g ⊢;refine bB ?_;simp only[go_sem,bn,tg,w8,QY,QZ,q,p,n,k,j,P7,g]
theorem Wa{i:Nat}{bad:Bool}(A:i<=L.length):∃R,bK (lB G tg) (0,[a,b,c,d,name_q,.int .i64 (i:Int),.bool bad,.int .i64 o,eb L])=Z R/\
  (((pv L L.length i bad []).1=[]/\R=(0,[.bool J,a,b,c,d,name_q,.int .i64 ((pv L L.length i bad []).2.1:Int),.bool (pv L L.length i bad []).2.2,.int .i64 o,eb L]))\/
   R=(1,[.bool J,a,b,c,d,name_q,.int .i64 ((pv L L.length i bad []).2.1:Int),.bool (pv L L.length i bad []).2.2,.int .i64 o,fq (pv L L.length i bad []).1,eb L])):=by
 cases h:oQ L i bad 4 I6
 ·have f:=FJ (i:=i) (bad:=bad) (o:=o) hL (t:=I6);rw[h]at f;unfold MF at f;rw[if_neg (by rw[h];simp)]at f;simp only[cP,aq,ay]at f;have e:pv L L.length i bad []=([],i,bad):=by
   cases L.length with
   |zero=>rfl
   |succ m=>unfold pv;rw[if_neg (by rw[h];simp)]
  rw[e];refine⟨_,aF (r:=(0,[.bool J,a,b,c,d,name_q,.int .i64 (i:Int),.bool bad,.int .i64 o,eb L])) ?_,.inl ⟨rfl,rfl⟩⟩;simp only[go_sem,bn,tg,w8,f]
 ·obtain⟨s,q,p,n,j⟩:=CE (o:=o) hL h;have v:=(jz h).1;have y:=zi (bad:=bad) (show i+1<=L.length from v);simp only[cP,aq,ay]at s q p n j;have g:aK (.app 2 32) [.list 2 I [],fq [(gP L (i+1) bad).1]]=Z (fq [(gP L (i+1) bad).1]):=OR (l:=[]) (by simp) _;obtain⟨k,x⟩:∃k,L.length=k+1:=⟨L.length - 1,by omega⟩
  have w:=Sv hL (a:=a) (b:=b) (c:=c) (d:=d) (name_q:=name_q) (o:=o) k (gP L (i+1) bad).2.1 (gP L (i+1) bad).2.2 ([]++[(gP L (i+1) bad).1]) (by omega) y.2.2 (by simp;omega);have e:pv L L.length i bad []=pv L k (gP L (i+1) bad).2.1 (gP L (i+1) bad).2.2 ([]++[(gP L (i+1) bad).1]):=by
   rw[x]
   conv=>lhs;unfold pv
   rw[if_pos h]
  rw[e];refine⟨_,(bB ?_).trans w,.inr rfl⟩;unfold gP at g ⊢;simp only[go_sem,bn,tg,w8,QY,QZ,s,q,p,n,j,P7,g]
theorem Sw{st:D}:∀(m i:Nat) (bad:Bool) (e:M iH),L.length<=i+m->i<=L.length->e.length<=i->
  bK (lB G th) (1,[a,b,c,d,name_q,.int .i64 (i:Int),.bool bad,.int .i64 o,fq e,st,eb L]) =
   Z (1,[.bool J,a,b,c,d,name_q,.int .i64 ((pv L m i bad e).2.1:Int),.bool (pv L m i bad e).2.2,.int .i64 o,fq (pv L m i bad e).1,st,eb L]):=by
 intro m
 induction m with
 |zero=>
  intro i bad e y x w;have h:oQ L i bad 4 I6=J:=by
   cases h:oQ L i bad 4 I6
   ·rfl
   ·have:=(jz h).1;omega
  have f:=FJ (i:=i) (bad:=bad) (o:=o) hL (t:=I6);rw[h]at f;unfold MF at f;rw[if_neg (by rw[h];simp)]at f;simp only[cP,aq,ay]at f;refine aF ?_;simp only[go_sem,bn,th,w8,f,pv]
 |succ m r=>
  intro i bad e y x w;cases h:oQ L i bad 4 I6
  ·have f:=FJ (i:=i) (bad:=bad) (o:=o) hL (t:=I6);rw[h]at f;unfold MF at f;rw[if_neg (by rw[h];simp)]at f;simp only[cP,aq,ay]at f;unfold pv;rw[if_neg (by rw[h];simp)];refine aF ?_;simp only[go_sem,bn,th,w8,f]
  ·obtain⟨q,p,n,k,j⟩:=CE (o:=o) hL h;have v:=zi (bad:=bad) (show i+1<=L.length from (jz h).1);simp only[cP,aq,ay]at q p n k j;have g:=OR (l:=e) (by omega) (gP L (i+1) bad).1;have s:=r (gP L (i+1) bad).2.1 (gP L (i+1) bad).2.2 (e++[(gP L (i+1) bad).1]) (by omega) v.2.2 (by rw[aR,gh];omega);unfold pv;rw[if_pos h];rw[<- s];unfold gP at g ⊢;refine bB ?_;simp only[go_sem,bn,th,w8,QY,QZ,q,p,n,k,j,P7,g]
theorem Wb{st:D}{i:Nat}{bad:Bool}(A:i<=L.length):∃R,bK (lB G th) (0,[a,b,c,d,name_q,.int .i64 (i:Int),.bool bad,.int .i64 o,st,eb L])=Z R/\
  (((pv L L.length i bad []).1=[]/\R=(0,[.bool J,a,b,c,d,name_q,.int .i64 ((pv L L.length i bad []).2.1:Int),.bool (pv L L.length i bad []).2.2,.int .i64 o,st,eb L]))\/
   R=(1,[.bool J,a,b,c,d,name_q,.int .i64 ((pv L L.length i bad []).2.1:Int),.bool (pv L L.length i bad []).2.2,.int .i64 o,fq (pv L L.length i bad []).1,st,eb L])):=by
 cases h:oQ L i bad 4 I6
 ·have f:=FJ (i:=i) (bad:=bad) (o:=o) hL (t:=I6);rw[h]at f;unfold MF at f;rw[if_neg (by rw[h];simp)]at f;simp only[cP,aq,ay]at f;have e:pv L L.length i bad []=([],i,bad):=by
   cases L.length with
   |zero=>rfl
   |succ m=>unfold pv;rw[if_neg (by rw[h];simp)]
  rw[e];refine⟨_,aF (r:=(0,[.bool J,a,b,c,d,name_q,.int .i64 (i:Int),.bool bad,.int .i64 o,st,eb L])) ?_,.inl ⟨rfl,rfl⟩⟩;simp only[go_sem,bn,th,w8,f]
 ·obtain⟨s,q,p,n,j⟩:=CE (o:=o) hL h;have v:=(jz h).1;have y:=zi (bad:=bad) (show i+1<=L.length from v);simp only[cP,aq,ay]at s q p n j;have g:aK (.app 2 32) [.list 2 I [],fq [(gP L (i+1) bad).1]]=Z (fq [(gP L (i+1) bad).1]):=OR (l:=[]) (by simp) _;obtain⟨k,x⟩:∃k,L.length=k+1:=⟨L.length - 1,by omega⟩
  have w:=Sw hL (a:=a) (b:=b) (c:=c) (d:=d) (name_q:=name_q) (o:=o) (st:=st) k (gP L (i+1) bad).2.1 (gP L (i+1) bad).2.2 ([]++[(gP L (i+1) bad).1]) (by omega) y.2.2 (by simp;omega);have e:pv L L.length i bad []=pv L k (gP L (i+1) bad).2.1 (gP L (i+1) bad).2.2 ([]++[(gP L (i+1) bad).1]):=by
   rw[x]
   conv=>lhs;unfold pv
   rw[if_pos h]
  rw[e];refine⟨_,(bB ?_).trans w,.inr rfl⟩;unfold gP at g ⊢;simp only[go_sem,bn,th,w8,QY,QZ,s,q,p,n,j,P7,g]
end
section
variable {L:M gL} (hL:L.length<=mg) {r1 u1 rt up:D} {o:Int}
include hL
theorem Mg{i:Nat}:G 398 (cP L i J o++[.int .i64 1])=Z (0,.str (oB L i J 1).1::cP L (oB L i J 1).2.1 (oB L i J 1).2.2 o):=ae1 hL
theorem zr{i:Nat}{bad:Bool}:G 401 (cP L i bad o++[.str Oe])=Z (0,.bool (oQ L i bad 4 Oe)::cP L (if oQ L i bad 4 Oe=I then i+1 else i) bad o):=FJ hL
theorem Sx:∀(m i:Nat) (bad:Bool) (e:M kS),L.length+1<=i+m->i<=L.length->e.length<=i->
  bK (lB G nh) (1,[.bool I,r1,u1,rt,up,.int .i64 (i:Int),.bool bad,.int .i64 o,cC e,eb L]) =
   Z (1,[.bool J,r1,u1,rt,up,.int .i64 ((vr L m i bad e).2.1:Int),.bool (vr L m i bad e).2.2,.int .i64 o,cC (vr L m i bad e).1,eb L]):=by
 intro m
 induction m with
 |zero=>intro i bad e F p;omega
 |succ m y=>
  intro i bad e F p K;cases bad
  ·have r:=Mg (o:=o) hL (i:=i);have C:=Ol p;have A:=EY (bad:=J) (k:=1) p;obtain⟨R,w,H⟩:=Wb hL (a:=r1) (b:=u1) (c:=rt) (d:=up) (name_q:=.str (oB L i J 1).1) (o:=o) (st:=cC e) (i:=(oB L i J 1).2.1) (bad:=(oB L i J 1).2.2) A.2.2.1;have g:=zr (o:=o) hL (i:=(wF L i).2.1) (bad:=(wF L i).2.2);have n:=abB (l:=e) (by omega) (wF L i).1;unfold vr;rw[if_neg (by simp)];have t:(wF L i).1=⟨(oB L i J 1).1,(pv L L.length (oB L i J 1).2.1 (oB L i J 1).2.2 []).1⟩:=rfl;have x:(wF L i).2=(pv L L.length (oB L i J 1).2.1 (oB L i J 1).2.2 []).2:=rfl;simp only[cP,aq,ay]at r g;rw[x]at g C;rw[x];generalize pv L L.length (oB L i J 1).2.1 (oB L i J 1).2.2 []=q at *;obtain⟨s,i2,h⟩:=q;dsimp only at *;have B:=P6 (oB L i J 1).1 s;have j:aK (.mW 2 J) [.str (oB L i J 1).1,.list 2 I []]=Z (cC [⟨(oB L i J 1).1,[]⟩]):=P6 _ [];rw[t]at n;rw[t];have go:∀v:Bool,oQ L i2 h 4 Oe=v->lB G nh (1,[.bool I,r1,u1,rt,up,.int .i64 (i:Int),.bool J,.int .i64 o,cC e,eb L])=Z (.go (1,[.bool v,r1,u1,rt,up,.int .i64 ((if v=I then i2+1 else i2:Nat):Int),.bool h,.int .i64 o,cC (e++[⟨(oB L i J 1).1,s⟩]),eb L])):=by
    intro v f;rw[f]at g;rcases H with ⟨rfl,rfl⟩|rfl
    ·simp only[go_sem,bn,nh,oR,r,w,aay,j,n,g]
    ·simp only[go_sem,bn,nh,oR,r,w,aay,B,n,g]
   cases f:oQ L i2 h 4 Oe
   ·rw[if_neg (by simp),bB (go J f)];refine aF ?_;simp only[go_sem,bn,nh]
   ·rw[if_pos rfl,bB (go I f),if_pos rfl];exact y (i2+1) h _ (by omega) (jz f).1 (by rw[aR,gh];omega)
  ·unfold vr;rw[if_pos rfl];refine aF ?_;simp only[go_sem,bn,nh]
theorem Lr{x:D}{i:Nat}{bad more:Bool}(t:i<=L.length):∃R,bK (lB G nh) (0,[.bool more,x,r1,u1,rt,up,.int .i64 (i:Int),.bool bad,.int .i64 o,eb L])=Z R/\
  (((if more=I then vr L (L.length+1) i bad [] else ([],i,bad)).1=[]/\R=(0,[.bool J,r1,u1,rt,up,.int .i64 ((if more=I then vr L (L.length+1) i bad [] else ([],i,bad)).2.1:Int),.bool (if more=I then vr L (L.length+1) i bad [] else ([],i,bad)).2.2,.int .i64 o,eb L]))\/
   R=(1,[.bool J,r1,u1,rt,up,.int .i64 ((if more=I then vr L (L.length+1) i bad [] else ([],i,bad)).2.1:Int),.bool (if more=I then vr L (L.length+1) i bad [] else ([],i,bad)).2.2,.int .i64 o,cC (if more=I then vr L (L.length+1) i bad [] else ([],i,bad)).1,eb L])):=by
 cases more
 ·refine⟨_,aF (r:=(0,[.bool J,r1,u1,rt,up,.int .i64 (i:Int),.bool bad,.int .i64 o,eb L])) ?_,.inl ⟨rfl,rfl⟩⟩;simp only[go_sem,bn,nh]
 ·rw[if_pos rfl];cases bad
  ·have p:=Mg (o:=o) hL (i:=i);have K:=Ol t;have C:=EY (bad:=J) (k:=1) t;obtain⟨R,y,N⟩:=Wa hL (a:=r1) (b:=u1) (c:=rt) (d:=up) (name_q:=.str (oB L i J 1).1) (o:=o) (i:=(oB L i J 1).2.1) (bad:=(oB L i J 1).2.2) C.2.2.1;have g:=zr (o:=o) hL (i:=(wF L i).2.1) (bad:=(wF L i).2.2);have n:aK (.app 2 40) [.list 2 J [],cC [(wF L i).1]]=Z (cC [(wF L i).1]):=abB (l:=[]) (by simp) _;have e:vr L (L.length+1) i J []=if oQ L (wF L i).2.1 (wF L i).2.2 4 Oe=I then vr L L.length ((wF L i).2.1+1) (wF L i).2.2 [(wF L i).1] else ([(wF L i).1],(wF L i).2):=by
    conv=>lhs;unfold vr
    rw[if_neg (by simp)];rfl
   rw[e];have s:(wF L i).1=⟨(oB L i J 1).1,(pv L L.length (oB L i J 1).2.1 (oB L i J 1).2.2 []).1⟩:=rfl;have A:(wF L i).2=(pv L L.length (oB L i J 1).2.1 (oB L i J 1).2.2 []).2:=rfl;simp only[cP,aq,ay]at p g;clear e;rw[A]at g K;rw[A];rw[s]at n;rw[s];generalize pv L L.length (oB L i J 1).2.1 (oB L i J 1).2.2 []=q at *;obtain⟨j,i2,h⟩:=q;dsimp only at *;have H:=P6 (oB L i J 1).1 j;have m:aK (.mW 2 J) [.str (oB L i J 1).1,.list 2 I []]=Z (cC [⟨(oB L i J 1).1,[]⟩]):=P6 _ [];have go:∀v:Bool,oQ L i2 h 4 Oe=v->lB G nh (0,[.bool I,x,r1,u1,rt,up,.int .i64 (i:Int),.bool J,.int .i64 o,eb L])=Z (.go (1,[.bool v,r1,u1,rt,up,.int .i64 ((if v=I then i2+1 else i2:Nat):Int),.bool h,.int .i64 o,cC [⟨(oB L i J 1).1,j⟩],eb L])):=by
    intro v f;rw[f]at g;rcases N with ⟨rfl,rfl⟩|rfl
    ·simp only[go_sem,bn,nh,oR,p,y,aay,m,n,g]
    ·simp only[go_sem,bn,nh,oR,p,y,aay,H,n,g]
   cases f:oQ L i2 h 4 Oe
   ·rw[if_neg (by simp)];refine⟨_,(bB (go J f)).trans (aF (r:=(1,[.bool J,r1,u1,rt,up,.int .i64 (i2:Int),.bool h,.int .i64 o,cC [⟨(oB L i J 1).1,j⟩],eb L])) ?_),.inr rfl⟩;simp only[go_sem,bn,nh]
   ·rw[if_pos rfl];have B:=(jz f).1;have F:=Sx hL (r1:=r1) (u1:=u1) (rt:=rt) (up:=up) (o:=o) L.length (i2+1) h [⟨(oB L i J 1).1,j⟩] (by omega) B (by simp);have w:=go I f;rw[if_pos rfl]at w;exact⟨_,(bB w).trans F,.inr rfl⟩
  ·have e:vr L (L.length+1) i I []=([],i,I):=by
    unfold vr;rw[if_pos rfl]
   rw[e];refine⟨_,aF (r:=(0,[.bool J,r1,u1,rt,up,.int .i64 (i:Int),.bool I,.int .i64 o,eb L])) ?_,.inl ⟨rfl,rfl⟩⟩;simp only[go_sem,bn,nh]
theorem O3{i:Nat}{bad:Bool}:G 401 (cP L i bad o++[.str ddA])=Z (0,.bool (oQ L i bad 4 ddA)::cP L (if oQ L i bad 4 ddA=I then i+1 else i) bad o):=FJ hL
theorem Sy:∀(m i:Nat) (bad:Bool) (a:Nat),L.length+1<=i+m->i<=L.length->a<=i->
  bK (lB G pN) (1,[.bool I,r1,u1,.bool J,.int .i64 (a:Int),.int .i64 (i:Int),.bool bad,.int .i64 o,eb L]) =
   Z (0,[.bool (uo L m i bad a).2.2,.bool J,r1,u1,.bool J,.int .i64 ((uo L m i bad a).1:Int),.int .i64 ((uo L m i bad a).2.1:Int),.bool bad,.int .i64 o,eb L]):=by
 intro m
 induction m with
 |zero=>intro i bad a g c;omega
 |succ m f=>
  intro i bad a g c k;have b:=O3 (o:=o) hL (i:=i) (bad:=bad);simp only[cP,aq,ay]at b;unfold uo;cases h:oQ L i bad 4 ddA
  ·rw[h]at b;rw[if_neg (by simp)];refine aF ?_;simp only[go_sem,bn,pN,HG,b]
  ·rw[h]at b;rw[if_pos rfl];have j:=(jz h).1;have e:IntKind.i64.wrap ((a:Int)+1)=((a+1:Nat):Int):=by simp only[mg]at hL;rw[wrap_i64 (by omega)];omega
   have d:=zr (o:=o) hL (i:=i+1) (bad:=bad);simp only[cP,aq,ay]at d;cases c:oQ L (i+1) bad 4 Oe
   ·rw[c]at d;rw[if_neg (by simp)];refine (bB (s':=(1,[.bool J,r1,u1,.bool J,.int .i64 ((a+1:Nat):Int),.int .i64 ((i+1:Nat):Int),.bool bad,.int .i64 o,eb L])) ?_).trans (aF ?_)
    ·simp only[go_sem,bn,pN,HG,oR,b,d,e]
    ·simp only[go_sem,bn,pN]
   ·rw[c]at d;rw[if_pos rfl,<- f (i+2) bad (a+1) (by omega) (jz c).1 (by omega)];refine bB ?_;simp only[go_sem,bn,pN,HG,oR,b,d,e]
end
end
section
theorem qC(b:Bool):aK .pl [.bool b]=Z (.bool J):=(rfl)
section
variable {L:M gL} (hL:bQ qi L<=8388608) {o:Int}
include hL
theorem JF:L.length<=mg:=by simp only[bQ,mg]at *;omega
theorem Wc{r1 u1 x:D}{i:Nat}{bad:Bool}(g:i<=L.length) :
  bK (lB G pN) (0,[.bool I,x,r1,u1,.bool J,.int .i64 0,.int .i64 (i:Int),.bool bad,.int .i64 o,eb L]) =
   Z (0,[.bool (uo L (L.length+1) i bad 0).2.2,.bool J,r1,u1,.bool J,.int .i64 ((uo L (L.length+1) i bad 0).1:Int),.int .i64 ((uo L (L.length+1) i bad 0).2.1:Int),.bool bad,.int .i64 o,eb L]):=by
 have c:=JF hL;have a:=O3 (o:=o) c (i:=i) (bad:=bad);simp only[cP,aq,ay]at a;unfold uo;cases h:oQ L i bad 4 ddA
 ·rw[h]at a;rw[if_neg (by simp)];refine aF ?_;simp only[go_sem,bn,pN,HG,a];rfl
 ·rw[h]at a;rw[if_pos rfl];have f:=(jz h).1;have e:IntKind.i64.wrap 1=1:=rfl;have b:=zr (o:=o) c (i:=i+1) (bad:=bad);simp only[cP,aq,ay]at b;cases d:oQ L (i+1) bad 4 Oe
  ·rw[d]at b;rw[if_neg (by simp)];refine (bB (s':=(1,[.bool J,r1,u1,.bool J,.int .i64 ((0+1:Nat):Int),.int .i64 ((i+1:Nat):Int),.bool bad,.int .i64 o,eb L])) ?_).trans (aF ?_)
   ·simp only[go_sem,bn,pN,HG,oR,a,b,e]
   ·simp only[go_sem,bn,pN]
  ·rw[d]at b;rw[if_pos rfl,<- Sy c L.length (i+2) bad (0+1) (by omega) (jz d).1 (by omega)];refine bB ?_;simp only[go_sem,bn,pN,HG,oR,a,b,e]
theorem am0{i:Nat}{bad:Bool}(r:i<=L.length):G 406 (cP L i bad o)=Z (0,ej (Ev L i bad).1++cP L (Ev L i bad).2.1 (Ev L i bad).2.2 o):=by
 have j:=JF hL;have b:=zr (o:=o) j (i:=i) (bad:=bad);have A:=WR (bad:=bad) r;have a:=aev (p:=(Tb L i bad).1) (by simp only[mg];omega);unfold Ev;have c:Tb L i bad=Tb L i bad:=rfl
 conv at c=>rhs;unfold Tb
 simp only[cP,aq,ay]at b;cases h:oQ L i bad 4 Oe
 ·rw[h]at b c;rw[if_neg (by simp)]at c;have e:=Wc hL (r1:=.bool J) (u1:=.int .i64 0) (x:=.bool J) (o:=o) (bad:=bad) r;have w:=OC (m:=L.length+1) (bad:=bad) (u:=0) r;obtain⟨R,d,f⟩:=Lr j (r1:=.bool J) (u1:=.int .i64 0) (rt:=.bool J) (up:=.int .i64 ((uo L (L.length+1) i bad 0).1:Int)) (o:=o) (x:=.bool J) (bad:=bad) (more:=(uo L (L.length+1) i bad 0).2.2) w.2.1;have s:Tb L i bad=(⟨J,(uo L (L.length+1) i bad 0).1,(if (uo L (L.length+1) i bad 0).2.2=I then vr L (L.length+1) (uo L (L.length+1) i bad 0).2.1 bad [] else ([],(uo L (L.length+1) i bad 0).2.1,bad)).1⟩,(if (uo L (L.length+1) i bad 0).2.2=I then vr L (L.length+1) (uo L (L.length+1) i bad 0).2.1 bad [] else ([],(uo L (L.length+1) i bad 0).2.1,bad)).2):=by
   rw[c]
   split<;>rfl
  clear c;rw[s]at a ⊢;generalize (if (uo L (L.length+1) i bad 0).2.2=I then vr L (L.length+1) (uo L (L.length+1) i bad 0).2.1 bad [] else ([],(uo L (L.length+1) i bad 0).2.1,bad))=q at *;obtain⟨l,i2,y⟩:=q;simp only[ej,cP,aq,ay]at a f ⊢;refine dd EX rfl ?_;cases n:jv ⟨J,((uo L (L.length+1) i bad 0).1:Int),l⟩<;>rw[n]at a
  ·rcases f with ⟨rfl,rfl⟩|rfl
   ·have a:G 205 [.bool J,.int .i64 ((uo L (L.length+1) i bad 0).1:Int),.list 2 J []]=_:=a;simp only[go_sem,EX,oR,b,e,d,a,dZ,ft];rfl
   ·simp only[go_sem,EX,oR,b,e,d,qC,a,dZ,ft]
  ·rcases f with ⟨rfl,rfl⟩|rfl
   ·have a:G 205 [.bool J,.int .i64 ((uo L (L.length+1) i bad 0).1:Int),.list 2 J []]=_:=a;simp only[go_sem,EX,oR,b,e,d,a,eP,ew];rfl
   ·simp only[go_sem,EX,oR,b,e,d,qC,a,eP,ew]
 ·rw[h]at b c;rw[if_pos rfl]at c;have v:=(jz h).1;have g:=ae0 (i:=i+1) (bad:=bad) (o:=o) j (k:=1) (t:=oP);have e:bK (lB G NB) (0,[.bool (oQ L (i+1) bad 1 oP),.bool J,.int .i64 0,.bool I,.int .i64 0,.int .i64 ((i+1:Nat):Int),.bool bad,.int .i64 o,eb L])=Z (0,[.bool (oQ L (i+1) bad 1 oP),.bool J,.bool J,.int .i64 0,.bool I,.int .i64 0,.int .i64 ((i+1:Nat):Int),.bool bad,.int .i64 o,eb L]):=by
   refine aF ?_;cases oQ L (i+1) bad 1 oP<;>simp only[go_sem,bn,NB]
  obtain⟨R,d,f⟩:=Lr j (r1:=.bool J) (u1:=.int .i64 0) (rt:=.bool I) (up:=.int .i64 0) (o:=o) (x:=.bool J) (bad:=bad) (more:=oQ L (i+1) bad 1 oP) (show i+1<=L.length from v);have s:Tb L i bad=(⟨I,0,(if oQ L (i+1) bad 1 oP=I then vr L (L.length+1) (i+1) bad [] else ([],i+1,bad)).1⟩,(if oQ L (i+1) bad 1 oP=I then vr L (L.length+1) (i+1) bad [] else ([],i+1,bad)).2):=by
   rw[c]
   split<;>rfl
  clear c;rw[s]at a ⊢;generalize (if oQ L (i+1) bad 1 oP=I then vr L (L.length+1) (i+1) bad [] else ([],i+1,bad))=q at *;obtain⟨l,i2,y⟩:=q;simp only[ej,cP,aq,ay]at a f g ⊢;refine dd EX rfl ?_;cases n:jv ⟨I,0,l⟩<;>rw[n]at a
  ·rcases f with ⟨rfl,rfl⟩|rfl
   ·have a:G 205 [.bool I,.int .i64 0,.list 2 J []]=_:=a;simp only[go_sem,EX,oR,yv,b,g,e,d,a,dZ,ft];rfl
   ·simp only[go_sem,EX,oR,yv,b,g,e,d,qC,a,dZ,ft]
  ·rcases f with ⟨rfl,rfl⟩|rfl
   ·have a:G 205 [.bool I,.int .i64 0,.list 2 J []]=_:=a;simp only[go_sem,EX,oR,yv,b,g,e,d,a,eP,ew];rfl
   ·simp only[go_sem,EX,oR,yv,b,g,e,d,qC,a,eP,ew]
end
theorem am4{s:z}(g:s.size<=4194304):G 421 [.str s]=Z (0,ej (qW s).1++[.bool (qW s).2]):=by
 have c:=amY g;have e:bQ qi (ue s).1<=8388608:=by have:=PY s;omega
 have b:=am0 e (o:=0) (i:=0) (bad:=Z' (0<=(ue s).2)) (cB _);unfold qW;dsimp only;generalize Ev (ue s).1 0 (Z' (0<=(ue s).2))=q at *;obtain⟨p,i2,f⟩:=q;have a:=am1 (JF e) (i:=i2) (bad:=f) (o:=0);simp only[ej,cP,aq,ay]at c b a;refine dd abi rfl ?_;cases f
 ·by_cases h:i2=(ue s).1.length
  ·rw[if_pos ⟨rfl,h⟩];have d:Z' (i2=(ue s).1.length)=I:=by simpa using h
   rw[d]at a;simp only[go_sem,abi,c,b,a,ej]
  ·rw[if_neg (λx=>h x.2)];have d:Z' (i2=(ue s).1.length)=J:=by simpa using h
   rw[d]at a;simp only[go_sem,abi,c,b,a,ej];rfl
 ·rw[if_neg (λx=>by cases x.1)];simp only[go_sem,abi,c,b,a,ej];rfl
end
section
def FH(e:cM):M iG:=if e.op=3\/e.op=4 then [e.path] else []
def wE:M cM->M iG
 |[]=>[]
 |e::es=>FH e++wE e.ae++wE es
termination_by es=>av es
decreasing_by
 ·exact cM.gI e es
 ·simp only[bo];omega
def ql(e:cM):M iG:=FH e++wE e.ae
theorem Hr(e:cM):∀l:M cM,wE (l++[e])=wE l++ql e
 |[]=>by simp[wE,ql]
 |x::l=>by rw[aq,wE,Hr e l,wE];simp[bE]
theorem LY:wE []=[]:=by rw[wE]
theorem Jm(e:cM):bQ ej (FH e)<=1+fN (ej e.path):=by
 unfold FH;split
 ·rw[fJ];have:bQ ej []=0:=rfl;omega
 ·have:bQ ej []=0:=rfl;omega
theorem QA(n:Nat):∀l:M cM,av l < n->bQ ej (wE l)<=bQ cj l:=by
 induction n with
 |zero=>intro l h;omega
 |succ n a=>
  intro l h;cases l with
  |nil=>rw[LY];exact cB _
  |cons e es=>
   have d:=a e.ae (by have:=cM.gI e es;omega);have c:=a es (by simp only[bo]at h;omega);have b:=Jm e;rw[wE,hY,hY,fJ,lO];omega
theorem Qz(e:cM):bQ ej (ql e)<=1+fN (cj e):=by
 have b:=QA _ e.ae (aY _);have a:=Jm e;unfold ql;rw[hY,lO];omega
abbrev jt(l:M iG):D:=.list 3 J (l.map ej)
theorem Wv:aK (.mW 3 J) []=Z (jt []):=(rfl)
theorem ah5(p:iG):aK (.mW 3 J) [.bool p.root,.int .i64 p.nM,cC p.steps]=Z (jt [p]):=by
 rw[jf 3 _ rfl (by decide)];rfl
theorem apP{a b:M iG}(h:a.length+b.length<=2147483648):aK (.app 3 40) [jt a,jt b]=Z (jt (a++b)):=by
 rw[eQ 3 40 J _ _ (by decide) (by simpa using h),jt,bR]
theorem plP(a:Bool)(b:Int):aK .pl [.bool a,.int .i64 b]=Z (.bool J):=(rfl)
theorem ae2(n:Nat):∀e:cM,av e < n->fN (cj e)<=mg->G 417 (cj e)=Z (0,[jt (ql e)]):=by
 induction n with
 |zero=>intro e h;omega
 |succ n y=>
  intro e F r;have l:e.ae.length<=mg:=aL rZ r;have s:∀k,bQ ej (wE (e.ae.take k))<=mg:=by
   intro k;have L:=QA _ (e.ae.take k) (aY _);have D:=hY cj (e.ae.take k) (e.ae.drop k);rw[bh]at D;have:=lO e;omega
  have H:=Jm e;have C:(FH e).length<=1:=by unfold FH;split<;>simp
  have c:=fM (b:=lB G D3) e.ae (λi (m:M iG)=>(0,[.int .i64 (i:Int),.int .i64 e.op,.int .i64 e.num,.str e.text,.bool e.path.root,.int .i64 e.path.nM,cC e.path.steps,dm e.ae,jt m])) (λi=>FH e++wE (e.ae.take i)) (0,[.int .i64 e.ae.length,.bool J,.int .i64 e.op,.int .i64 e.num,.str e.text,.bool e.path.root,.int .i64 e.path.nM,cC e.path.steps,dm e.ae,jt (FH e++wE e.ae)]) (by
   intro i x d;have t:=bF d;have B:=wj t l;have w:=y x (by have:=cM.Aw (bz d);omega) (aL (xw (bz d)) r);have K:=s i;have N:=Qz x;have A:=aL (xw (bz d)) r;have g:=apP (a:=FH e++wE (e.ae.take i)) (b:=ql x) (by simp only[bQ,aR,mg]at *;omega);rw[bE,<- Hr,<- cx _ _ _ d]at g;rw[br]at w;simp only[go_sem,bn,D3,t,aN,d,iu];simp only[go_sem,bn,D3,br,t,aN,d,iu,w,g,B]) (by simp only[go_sem,bn,D3,aG,bN]) e.ae.length 0 (by omega)
  rw[dw,LY,aQ,n0]at c;have f:=q77 (p:=e.path) (by have:=lO e;omega);rw[ej]at f;refine dd abh (by rw[br];rfl) ?_;unfold ql;have j:FH e=if e.op=3\/e.op=4 then [e.path] else []:=rfl
  by_cases q:e.op=3
  ·rw[if_pos (.inl q)]at j;rw[j]at c ⊢;rw[q]at c;have g:aK (.app 3 40) [jt [],jt [e.path]]=Z (jt [e.path]):=apP (a:=[]) (by simp);simp only[go_sem,abh,br,q,Wv,f,plP,ah5,g,c]
  ·by_cases o:e.op=4
   ·rw[if_pos (.inr o)]at j;rw[j]at c ⊢;rw[o]at c;have v:¬(4:Int)=3:=by decide
    have g:aK (.app 3 40) [jt [],jt [e.path]]=Z (jt [e.path]):=apP (a:=[]) (by simp);simp only[go_sem,abh,br,o,v,Wv,f,plP,ah5,g,c]
   ·rw[if_neg (by rintro (h|h);exact q h;exact o h)]at j;rw[j]at c ⊢;simp only[go_sem,abh,br,q,o,Wv,c]
theorem am3{e:cM}(a:fN (cj e)<=mg):G 417 (cj e)=Z (0,[jt (ql e)]):=ae2 _ e (aY _) a
def RA:M ah->M z->u ah
 |_,[]=>O
 |l,b::a=>match dh (dk l) b with
  |none=>O
  |some k=>match nth (dk l) k with
   |none=>O
   |some n=>match a with
    |[]=>Z n
    |_::_=>RA n.ae a
def RB:u ah->Nat×M D
 |some n=>(1,aB n++[.bool I])
 |none=>(0,aB qU++[.bool J])
theorem aaF{l:M z}(h:1<=l.length):aK (.v8 1 J) [aO l,.int .i64 1]=Z (aO (l.drop 1)):=by
 have a:dI (.int .i64 1)=Z 1:=rfl;simp only[aK,a,aj];rw[if_pos ⟨trivial,h⟩,<- List.map_drop]
theorem Ij{l:M ah}{i:Nat}{y:ah}(h:nth l i=Z y):aK (.el 19) [az l,.int .i64 (i:Int)]=Z (.list 0 J [aB y]):=by
 rw[pT,aN,h];rfl
theorem Xa:∀(a:M z) {l:M ah},bQ aB l<=mg->a.length<=mg->G 418 [az l,aO a]=Z (RB (RA l a))
 |[],l,p,r=>by
  refine dd Ox rfl ?_;simp only[go_sem,Ox,RA,RB,ai,qU];rfl
 |nm::a,l,p,r=>by
  have e:=q81 p;have hd:=nH (es:=l);have b:=Xc (l:=dk l) (nm:=nm) (by simp only[bQ]at *;omega);have d:¬((a.length+1:Nat):Int)=0:=by omega
  refine dd Ox rfl ?_;unfold RA;cases g:dh (dk l) nm with
  |none=>
   rw[g]at b;simp only[go_sem,Ox,d,e,aN,fR,b,jG,RB,ai,qU];rfl
  |some k=>
   obtain⟨n,h,t⟩:=dy g;rw[g]at b;have f:¬(k:Int) < 0:=by omega
   have i:=Ij h;dsimp only;rw[h];have s:fN (aB n)<=mg:=by have:=eh aB (bz h);omega
   cases a with
   |nil=>
    simp only[go_sem,Ox,e,aN,fR,b,jG,f,i,ba,RB,ai]
   |cons m a=>
    have c:=Xa (m::a) (l:=n.ae) (by have:=dN n;omega) (by simp only[aE]at *;omega);have j:¬((a.length+1+1:Nat):Int)=1:=by omega
    have d:¬((a.length+1+1:Nat):Int)=0:=by omega
    have o:aK (.v8 1 J) [aO (nm::m::a),.int .i64 1]=Z (aO (m::a)):=aaF (by simp);dsimp only;cases q:RA n.ae (m::a) with
    |none=>
     rw[q]at c;simp only[RB]at c ⊢;simp only[go_sem,Ox,d,j,e,aN,fR,b,jG,f,i,ba,o,ai,c,qU]
    |some y=>
     rw[q]at c;simp only[RB]at c ⊢;simp only[go_sem,Ox,d,j,e,aN,fR,b,jG,f,i,ba,o,ai,c]
end
section
def zA(d:M ah)(t:iH):Bool:=match dh d t.name_q with
 |some j=>(match nth d j with
  |some n=>Z' (n.aw=3)
  |none=>J)
 |none=>J
def YH(l:M ah):M kS->M z->u (M z)
 |[],out=>Z out
 |s::a,out=>match RA l (out++[s.name_q]) with
  |some n=>if s.fk.all (zA (dk n.ae))=I then YH l a (out++[s.name_q]) else O
  |none=>O
def zo(l:M ah)(at_:M z)(p:iG):u (M z):=
 if jv p=I/\p.nM<=(at_.length:Int) then YH l p.steps (if p.root=I then [] else at_.take (at_.length - p.nM.toNat)) else O
theorem Nd:∀(a:M z) {l:M ah} {n:ah},RA l a=Z n->fN (aB n)<=bQ aB l
 |[],_,_,h=>by cases h
 |c::a,l,n,h=>by
  unfold RA at h
  split at h
  ·cases h
  ·rename_i k d
   split at h
   ·cases h
   ·rename_i m b;have g:=eh aB (bz b);have f:=nH (es:=l)
    split at h
    ·cases h;omega
    ·have e:=Nd _ h;have:=dN m;omega
theorem acw{l:M z}(h:l.length<=mg)(a:z):aK (.app 1 16) [aO l,aO [a]]=Z (aO (l++[a])):=by
 rw[eQ 1 16 I _ _ (by decide) (by simp only[mg,aj,aE,aJ]at *;omega),aO,bR]
theorem fT(a:z):aK (.mW 1 I) [.str a]=Z (aO [a]):=by simp[aK,chunk,cD,D.plain,fR]
theorem eo:aK (.mW 1 I) []=Z (aO []):=(rfl)
theorem Gu{l:M kS}{i:Nat}{y:kS}(h:nth l i=Z y):aK (.el 2) [cC l,.int .i64 (i:Int)]=Z (.list 0 J [eS y]):=by
 rw[pT,aN,h];rfl
theorem O7{l:M iH}{i:Nat}{y:iH}(h:nth l i=Z y):aK (.el 2) [fq l,.int .i64 (i:Int)]=Z (.list 0 J [jW y]):=by
 rw[pT,aN,h];rfl
theorem agf{l:M ah}{i:Nat}(h:i < l.length):aK .FA [az l,.int .i64 (i:Int)]=Z (.bool J):=xP _ _ _ _ (by simpa using h)
theorem UM{d:M ah}{j:Nat}{e:ah}(h:nth d j=Z e):aK (.Gv 19 0 1 I) [az d,.int .i64 (j:Int)]=Z (.list 0 J [aB e]):=by
 have a:nth (d.map aB) j=Z (aB e):=by rw[aN,h];rfl
 simp only[aK,cq,a];rw[ai];simp[cD,D.plain]
theorem sd(a:Int):aK .pl [.int .i64 a]=Z (.bool J):=(rfl)
theorem B5(a b c:D)(k:Nat)(d:Bool)(es:M (M D))(r:M D):aK .LJ (a::b::c::.list k d es::r)=Z (.bool J):=by simp[aK,cD,D.plain]
section
variable {l:M ah} {rt up old:D} {steps:M kS}
theorem Sz{i:Nat}{s:kS}{out:M z}{d:M ah}(o:nth steps i=Z s)(hd:d.length<=mg)(y:s.fk.length<=mg) :
  bK (lB G u5) (0,[az l,.int .i64 (i:Int),.int .i64 0,rt,up,cC steps,old,aO out,az d])=Z (if s.fk.all (zA d)=I then (1,[az l,.int .i64 (i:Int),.int .i64 s.fk.length,.bool J,rt,up,cC steps,old,aO out,az d]) else (0,[.bool J,old,aO out,aO []])):=by
 have h:=lf (b:=lB G u5) s.fk (λk=>(0,[az l,.int .i64 (i:Int),.int .i64 (k:Int),rt,up,cC steps,old,aO out,az d])) (zA d)
  (1,[az l,.int .i64 (i:Int),.int .i64 s.fk.length,.bool J,rt,up,cC steps,old,aO out,az d]) (0,[.bool J,old,aO out,aO []]) (by
  intro k t p;have a:=bF p;have x:=wj a y;have m:=Gu o;have g:=O7 p;have f:=Xc (l:=d) (nm:=t.name_q) hd;unfold zA;cases c:dh d t.name_q with
  |none=>
   rw[c]at f;simp only[go_sem,bn,u5,m,eS,aj,a,g,jW,f,sd,jG,eo]
  |some j=>
   obtain⟨n,e,A⟩:=dy c;rw[c]at f;have q:¬(j:Int) < 0:=by omega
   have w:=agf (bF e);have v:=UM e;simp only[e];by_cases r:n.aw=3
   ·simp only[go_sem,bn,u5,m,eS,aj,a,g,jW,f,sd,jG,q,w,v,ai,r,x]
   ·simp only[go_sem,bn,u5,m,eS,aj,a,g,jW,f,sd,jG,q,w,v,ai,r,eo]
  ) (by simp only[go_sem,bn,u5,Gu o,eS,aj,aG])
 rw[n0]at h;exact h
def aks(l:M ah)(rt up old:D)(steps:M kS)(R:Nat×M D):u (M z)->Prop
 |some out=>∃k a,(k=4\/k=5)/\R=(k,[az l,a,.bool J,rt,up,cC steps,old,aO out])
 |none=>∃k y,k < 4/\R=(k,[.bool J,old,y,aO []])
theorem SD(L:bQ aB l<=4194304)(w:bQ eS steps<=4194304):∀(m i:Nat) (out:M z),i+m=steps.length->out.length<=4194304+i->∀h,(h=0\/h=1)->
  ∃R,bK (lB G qQ) (h,[az l,.int .i64 (i:Int),rt,up,cC steps,old,aO out])=Z R/\aks l rt up old steps R (YH l (steps.drop i) out):=by
 have P:l.length<=mg:=by simp only[bQ,mg]at *;omega
 have H:steps.length<=4194304:=by simp only[bQ]at w;omega
 intro m
 induction m with
 |zero=>
  intro i out A y h j;have a:¬i < steps.length:=by omega
  rw[eJ (by omega)];rcases j with rfl|rfl
  ·refine⟨(4,[az l,.int .i64 (i:Int),.bool J,rt,up,cC steps,old,aO out]),aF ?_,4,_,.inl rfl,rfl⟩;simp only[go_sem,bn,qQ,aj,a]
  ·refine⟨(5,[az l,.int .i64 (i:Int),.bool J,rt,up,cC steps,old,aO out]),aF ?_,5,_,.inr rfl,rfl⟩;simp only[go_sem,bn,qQ,aj,a]
 |succ m x=>
  intro i out A y h j;have a:i < steps.length:=by omega
  have g:=dV (l:=steps) (i:=i) a;have r:=ig steps i _ g;generalize steps[i]'a=s at g r;have p:IntKind.i64.wrap ((i:Int)+1)=((i+1:Nat):Int):=by rw[wrap_i64 (by omega)];omega
  have e:=Gu g;have c:=acw (l:=out) (by simp only[mg];omega) s.name_q;have f:=Xa (out++[s.name_q]) (l:=l) (by simp only[mg];omega) (by simp only[aR,gh,mg];omega);have F:s.fk.length<=mg:=by
   have C:=eh eS (bz g);rw[pZ]at C;simp only[bQ,mg]at *;omega
  rw[r];unfold YH;cases o:RA l (out++[s.name_q]) with
  |none=>
   rw[o]at f;simp only[RB]at f;rcases j with rfl|rfl
   ·refine⟨(0,[.bool J,old,aO (out++[s.name_q]),aO []]),aF ?_,0,_,by omega,rfl⟩;simp only[go_sem,bn,qQ,aj,a,e,eS,fT,c,f,ai,qU,eo];rfl
   ·refine⟨(2,[.bool J,old,aO (out++[s.name_q]),aO []]),aF ?_,2,_,by omega,rfl⟩;simp only[go_sem,bn,qQ,aj,a,e,eS,fT,c,f,ai,qU,eo];rfl
  |some n=>
   rw[o]at f;simp only[RB]at f;have K:=Nd _ o;have N:=dN n;have k:=q81 (l:=n.ae) (by simp only[mg];omega);have B:=nH (es:=n.ae);have b:=Sz (l:=l) (rt:=rt) (up:=up) (old:=old) (out:=out++[s.name_q]) (d:=dk n.ae) g (by simp only[bQ,mg]at *;omega) F;dsimp only;cases q:s.fk.all (zA (dk n.ae))
   ·rw[q]at b;rw[if_neg (by simp)]at b ⊢;rcases j with rfl|rfl
    ·refine⟨(3,[.bool J,old,aO (out++[s.name_q]),aO []]),aF ?_,3,_,by omega,rfl⟩;simp only[go_sem,bn,qQ,aj,a,e,eS,fT,c,f,ai,k,b,B5]
    ·refine⟨(3,[.bool J,old,aO (out++[s.name_q]),aO []]),aF ?_,3,_,by omega,rfl⟩;simp only[go_sem,bn,qQ,aj,a,e,eS,fT,c,f,ai,k,b,B5]
   ·rw[q]at b;rw[if_pos rfl]at b ⊢;obtain⟨R,v,t⟩:=x (i+1) (out++[s.name_q]) (by omega) (by rw[aR,gh];omega) 1 (.inr rfl);refine⟨R,(bB ?_).trans v,t⟩;rcases j with rfl|rfl
    ·simp only[go_sem,bn,qQ,aj,a,e,eS,fT,c,f,ai,k,b,B5,p]
    ·simp only[go_sem,bn,qQ,aj,a,e,eS,fT,c,f,ai,k,b,B5,p]
theorem SF{i:Nat}{s:kS}{out:M z}{d:M ah}(o:nth steps i=Z s)(hd:d.length<=mg)(y:s.fk.length<=mg) :
  bK (lB G u7) (0,[az l,.int .i64 (i:Int),.int .i64 0,rt,up,cC steps,aO out,az d])=Z (if s.fk.all (zA d)=I then (1,[az l,.int .i64 (i:Int),.int .i64 s.fk.length,.bool J,rt,up,cC steps,aO out,az d]) else (0,[.bool J,aO out,aO []])):=by
 have h:=lf (b:=lB G u7) s.fk (λk=>(0,[az l,.int .i64 (i:Int),.int .i64 (k:Int),rt,up,cC steps,aO out,az d])) (zA d)
  (1,[az l,.int .i64 (i:Int),.int .i64 s.fk.length,.bool J,rt,up,cC steps,aO out,az d]) (0,[.bool J,aO out,aO []]) (by
  intro k t p;have a:=bF p;have x:=wj a y;have m:=Gu o;have g:=O7 p;have f:=Xc (l:=d) (nm:=t.name_q) hd;unfold zA;cases c:dh d t.name_q with
  |none=>
   rw[c]at f;simp only[go_sem,bn,u7,m,eS,aj,a,g,jW,f,sd,jG,eo]
  |some j=>
   obtain⟨n,e,A⟩:=dy c;rw[c]at f;have q:¬(j:Int) < 0:=by omega
   have w:=agf (bF e);have v:=UM e;simp only[e];by_cases r:n.aw=3
   ·simp only[go_sem,bn,u7,m,eS,aj,a,g,jW,f,sd,jG,q,w,v,ai,r,x]
   ·simp only[go_sem,bn,u7,m,eS,aj,a,g,jW,f,sd,jG,q,w,v,ai,r,eo]
  ) (by simp only[go_sem,bn,u7,Gu o,eS,aj,aG])
 rw[n0]at h;exact h
def akt(l:M ah)(rt up:D)(steps:M kS)(R:Nat×M D):u (M z)->Prop
 |some out=>∃k a,(k=4\/k=5)/\R=(k,[az l,a,.bool J,rt,up,cC steps,aO out])
 |none=>∃k y,k < 4/\R=(k,[.bool J,y,aO []])
theorem SH(L:bQ aB l<=4194304)(w:bQ eS steps<=4194304):∀(m i:Nat) (out:M z),i+m=steps.length->out.length<=4194304+i->∀h,(h=0\/h=1)->
  ∃R,bK (lB G qR) (h,[az l,.int .i64 (i:Int),rt,up,cC steps,aO out])=Z R/\akt l rt up steps R (YH l (steps.drop i) out):=by
 have P:l.length<=mg:=by simp only[bQ,mg]at *;omega
 have H:steps.length<=4194304:=by simp only[bQ]at w;omega
 intro m
 induction m with
 |zero=>
  intro i out A y h j;have a:¬i < steps.length:=by omega
  rw[eJ (by omega)];rcases j with rfl|rfl
  ·refine⟨(4,[az l,.int .i64 (i:Int),.bool J,rt,up,cC steps,aO out]),aF ?_,4,_,.inl rfl,rfl⟩;simp only[go_sem,bn,qR,aj,a]
  ·refine⟨(5,[az l,.int .i64 (i:Int),.bool J,rt,up,cC steps,aO out]),aF ?_,5,_,.inr rfl,rfl⟩;simp only[go_sem,bn,qR,aj,a]
 |succ m x=>
  intro i out A y h j;have a:i < steps.length:=by omega
  have g:=dV (l:=steps) (i:=i) a;have r:=ig steps i _ g;generalize steps[i]'a=s at g r;have p:IntKind.i64.wrap ((i:Int)+1)=((i+1:Nat):Int):=by rw[wrap_i64 (by omega)];omega
  have e:=Gu g;have c:=acw (l:=out) (by simp only[mg];omega) s.name_q;have f:=Xa (out++[s.name_q]) (l:=l) (by simp only[mg];omega) (by simp only[aR,gh,mg];omega);have F:s.fk.length<=mg:=by
   have C:=eh eS (bz g);rw[pZ]at C;simp only[bQ,mg]at *;omega
  rw[r];unfold YH;cases o:RA l (out++[s.name_q]) with
  |none=>
   rw[o]at f;simp only[RB]at f;rcases j with rfl|rfl
   ·refine⟨(0,[.bool J,aO (out++[s.name_q]),aO []]),aF ?_,0,_,by omega,rfl⟩;simp only[go_sem,bn,qR,aj,a,e,eS,fT,c,f,ai,qU,eo];rfl
   ·refine⟨(2,[.bool J,aO (out++[s.name_q]),aO []]),aF ?_,2,_,by omega,rfl⟩;simp only[go_sem,bn,qR,aj,a,e,eS,fT,c,f,ai,qU,eo];rfl
  |some n=>
   rw[o]at f;simp only[RB]at f;have K:=Nd _ o;have N:=dN n;have k:=q81 (l:=n.ae) (by simp only[mg];omega);have B:=nH (es:=n.ae);have b:=SF (l:=l) (rt:=rt) (up:=up) (out:=out++[s.name_q]) (d:=dk n.ae) g (by simp only[bQ,mg]at *;omega) F;dsimp only;cases q:s.fk.all (zA (dk n.ae))
   ·rw[q]at b;rw[if_neg (by simp)]at b ⊢;rcases j with rfl|rfl
    ·refine⟨(3,[.bool J,aO (out++[s.name_q]),aO []]),aF ?_,3,_,by omega,rfl⟩;simp only[go_sem,bn,qR,aj,a,e,eS,fT,c,f,ai,k,b,B5]
    ·refine⟨(3,[.bool J,aO (out++[s.name_q]),aO []]),aF ?_,3,_,by omega,rfl⟩;simp only[go_sem,bn,qR,aj,a,e,eS,fT,c,f,ai,k,b,B5]
   ·rw[q]at b;rw[if_pos rfl]at b ⊢;obtain⟨R,v,t⟩:=x (i+1) (out++[s.name_q]) (by omega) (by rw[aR,gh];omega) 1 (.inr rfl);refine⟨R,(bB ?_).trans v,t⟩;rcases j with rfl|rfl
    ·simp only[go_sem,bn,qR,aj,a,e,eS,fT,c,f,ai,k,b,B5,p]
    ·simp only[go_sem,bn,qR,aj,a,e,eS,fT,c,f,ai,k,b,B5,p]
end
end
section
theorem acx{a b:M z}(h:a.length+b.length<=2147483648):aK (.app 1 16) [aO a,aO b]=Z (aO (a++b)):=by
 rw[eQ 1 16 I _ _ (by decide) (by simpa using h),aO,bR]
theorem aaA{l:M z}{b:Nat}(h:b<=l.length):aK (.cut I) [aO l,.int .i64 0,.int .i64 (b:Int)]=Z (aO (l.take b)):=by
 have c:dI (.int .i64 0)=Z 0:=rfl;have a:dI (.int .i64 (b:Int))=Z b:=by simp[dI]
 simp only[aK,c,a,aj];rw[if_pos ⟨cB _,h⟩,cK,<- lI]
def pW(o:u (M z)):M D:=[aO (o.getD []),.bool o.isSome]
theorem ajk{l:M ah}{at_:M z}{p:iG}(x:bQ aB l<=4194304)(F:at_.length<=4194304)(w:fN (ej p)<=4194304) :
  ∃j,(j=0\/j=1)/\G 419 ([az l,aO at_]++ej p)=Z (j,pW (zo l at_ p)):=by
 have f:=aev (p:=p) (by simp only[mg];omega);rw[ej]at f;have v:bQ eS p.steps<=4194304:=by rw[pY]at w;exact w
 unfold zo;cases t:jv p
 ·rw[t]at f;rw[if_neg (by simp)];refine⟨0,.inl rfl,dd wG rfl ?_⟩;simp only[go_sem,wG,ej,f,eo,pW,dz,bO]
 ·rw[t]at f;have D:=Ew t;obtain⟨c,C⟩:∃c:Nat,p.nM=(c:Int):=⟨p.nM.toNat,by omega⟩
  by_cases d:(at_.length:Int) < p.nM
  ·rw[if_neg (λh=>by omega)];refine⟨0,.inl rfl,dd wG rfl ?_⟩;simp only[go_sem,wG,ej,f,d,eo,pW,dz,bO]
  ·rw[if_pos ⟨rfl,by omega⟩];have H:c<=at_.length:=by omega
   have m:IntKind.i64.wrap ((at_.length:Int) - p.nM)=((at_.length - c:Nat):Int):=by rw[C,wrap_i64 (by omega)];omega
   have n:=aaA (l:=at_) (b:=at_.length - c) (by omega);have s:p.nM.toNat=c:=by omega
   rw[s];have o:aK (.app 1 16) [aO [],aO (at_.take (at_.length - c))]=Z (aO (at_.take (at_.length - c))):=acx (a:=[]) (by simp only[bj,aJ];omega);have A:p.steps.drop 0=p.steps:=rfl;cases g:p.root
   ·rw[if_neg (by simp)];rw[g]at f;obtain⟨R,i,e⟩:=SH (rt:=.bool p.root) (up:=.int .i64 p.nM) x v p.steps.length 0 (at_.take (at_.length - c)) (by omega) (by rw[bj];omega) 0 (.inl rfl);rw[A]at e;rw[n0,g]at i;cases q:YH l p.steps (at_.take (at_.length - c)) with
    |none=>
     rw[q]at e;obtain⟨k,y,r,rfl⟩:=e;have:k=0\/k=1\/k=2\/k=3:=by omega
     rcases this with rfl|rfl|rfl|rfl<;>(refine⟨0,.inl rfl,dd wG rfl ?_⟩;simp only[go_sem,wG,ej,f,d,eo,m,n,o,g,i,pW,dz,bO])
    |some out=>
     rw[q]at e;obtain⟨k,B,r,rfl⟩:=e;rcases r with rfl|rfl
     ·refine⟨0,.inl rfl,dd wG rfl ?_⟩;simp only[go_sem,wG,ej,f,d,eo,m,n,o,g,i,pW,dB,cZ]
     ·refine⟨1,.inr rfl,dd wG rfl ?_⟩;simp only[go_sem,wG,ej,f,d,eo,m,n,o,g,i,pW,dB,cZ]
   ·rw[if_pos rfl];rw[g]at f;obtain⟨R,i,e⟩:=SD (rt:=.bool p.root) (up:=.int .i64 p.nM) (old:=aO (at_.take (at_.length - c))) x v p.steps.length 0 [] (by omega) (by simp) 0 (.inl rfl);rw[A]at e;rw[n0,g]at i;cases q:YH l p.steps []with
    |none=>
     rw[q]at e;obtain⟨k,y,r,rfl⟩:=e;have:k=0\/k=1\/k=2\/k=3:=by omega
     rcases this with rfl|rfl|rfl|rfl<;>(refine⟨0,.inl rfl,dd wG rfl ?_⟩;simp only[go_sem,wG,ej,f,d,eo,m,n,o,g,i,pW,dz,bO])
    |some out=>
     rw[q]at e;obtain⟨k,B,r,rfl⟩:=e;rcases r with rfl|rfl
     ·refine⟨0,.inl rfl,dd wG rfl ?_⟩;simp only[go_sem,wG,ej,f,d,eo,m,n,o,g,i,pW,dB,cZ]
     ·refine⟨1,.inr rfl,dd wG rfl ?_⟩;simp only[go_sem,wG,ej,f,d,eo,m,n,o,g,i,pW,dB,cZ]
def qB(l:M ah)(at_:M z)(es:M cM):Bool:=es.all λe=>(ql e).all λp=>(zo l at_ p).isSome
theorem acR{l:M iG}{i:Nat}{y:iG}(h:nth l i=Z y):aK (.el 3) [jt l,.int .i64 (i:Int)]=Z (.list 0 J [ej y]):=by
 rw[pT,aN,h];rfl
theorem WT(p:iG)(k:Nat)(a:Bool):aK (.has 3) [.list k a [ej p]]=Z (.bool J):=by simp[aK,TM,ej]
theorem SI{x:D}{l:M ah}{at_:M z}{es:M cM}{i:Nat}{e:cM}(r:bQ aB l<=4194304)(s:at_.length<=4194304)(v:fN (cj e)<=4194303) :
  bK (lB G xD) (0,[az l,aO at_,dm es,.int .i64 (i:Int),jt (ql e),.int .i64 0,x])=Z (if ((ql e).all λp=>(zo l at_ p).isSome)=I then (1,[az l,aO at_,dm es,.int .i64 (i:Int),jt (ql e),.int .i64 (ql e).length,.bool J,x]) else (0,[.bool J])):=by
 have t:=Qz e;have a:(ql e).length<=mg:=by simp only[bQ,mg]at *;omega
 have h:=lf (b:=lB G xD) (ql e) (λk=>(0,[az l,aO at_,dm es,.int .i64 (i:Int),jt (ql e),.int .i64 (k:Int),x])) (λp=>(zo l at_ p).isSome)
  (1,[az l,aO at_,dm es,.int .i64 (i:Int),jt (ql e),.int .i64 (ql e).length,.bool J,x]) (0,[.bool J]) (by
  intro k p c;have d:=bF c;have g:=wj d a;have n:=acR c;have q:=eh ej (bz c);obtain⟨j,m,f⟩:=ajk (at_:=at_) (p:=p) r s (by omega);simp only[ej,aq,ay,pW]at f;cases o:(zo l at_ p).isSome<;>rw[o]at f
  ·rcases m with rfl|rfl<;>simp only[go_sem,bn,xD,aj,d,n,WT,ej,f,g]
  ·rcases m with rfl|rfl<;>simp only[go_sem,bn,xD,aj,d,n,WT,ej,f,g]
  ) (by simp only[go_sem,bn,xD,aj,aG])
 rw[n0]at h;exact h
theorem ajl{l:M ah}{at_:M z}{es:M cM}(m:bQ aB l<=4194304)(o:at_.length<=4194304)(q:bQ cj es<=4194303) :
  G 420 [az l,aO at_,dm es]=Z (0,[.bool (qB l at_ es)]):=by
 have c:es.length<=mg:=by simp only[bQ,mg]at *;omega
 have h:=lf (b:=lB G D4) es (λi=>(0,[az l,aO at_,dm es,.int .i64 (i:Int)])) (λe=>(ql e).all λp=>(zo l at_ p).isSome)
  (1,[az l,aO at_,dm es,.int .i64 es.length,.bool J]) (0,[.bool J]) (by
  intro i e d;have g:=bF d;have k:=wj g c;have n:=eh cj (bz d);have j:=am3 (e:=e) (by simp only[mg];omega);have f:=SI (x:=jt (ql e)) (es:=es) (i:=i) (e:=e) m o (by omega);rw[br]at j;cases a:(ql e).all λp=>(zo l at_ p).isSome
  ·rw[a,if_neg (by simp)]at f;simp only[go_sem,bn,D4,aj,g,aN,d,iu,br e,j,k,f]
  ·rw[a,if_pos rfl]at f;simp only[go_sem,bn,D4,aj,g,aN,d,iu,br e,j,k,f]
  ) (by simp only[go_sem,bn,D4,aj,aG])
 rw[n0]at h;refine dd afp rfl ?_;unfold qB;cases a:es.all λe=>(ql e).all λp=>(zo l at_ p).isSome
 ·rw[a,if_neg (by simp)]at h;simp only[go_sem,afp,h]
 ·rw[a,if_pos rfl]at h;simp only[go_sem,afp,h]
end
section
theorem QM{l:M ah}:∀{a:M kS} {out o:M z},YH l a out=Z o->o.length=out.length+a.length
 |[],out,o,h=>by cases h;rfl
 |s::a,out,o,h=>by
  unfold YH at h
  split at h
  ·split at h
   ·have:=QM h;rw[aR,gh]at this;rw[aE];omega
   ·cases h
  ·cases h
theorem Xp{l:M ah}{at_ o:M z}{p:iG}(h:zo l at_ p=Z o):o.length<=at_.length+p.steps.length:=by
 unfold zo at h
 split at h
 ·have:=QM h
  split at this
  ·simp at this;omega
  ·rw[bj]at this;omega
 ·cases h
theorem Tc(s:z):fN (ej (qW s).1)<=2 * s.size+1:=by
 have b:=PY s;have a:=(WR (L:=(ue s).1) (bad:=Z' (0<=(ue s).2)) (cB _)).1;unfold qW;dsimp only;split
 ·unfold Ev;dsimp only;omega
 ·rw[pY];exact cB _
theorem Qs:aK .pl [.int .i64 0,.str ⟨#[]⟩,.int .i64 0,.str ⟨#[]⟩,.str ⟨#[]⟩,.str ⟨#[]⟩,.bool J,.bool J,.bool J,.bool J,.int .i64 0,.int .i64 0,.bool J]=Z (.bool J):=(rfl)
def XV(l:M ah)(at_:M z)(t:jU):u (M z):=
 if t.aw=5/\(qW t.path).2=I then (match zo l at_ (qW t.path).1 with
  |some out=>(match RA l out with
   |some n=>if (n.aw=3\/n.aw=4)/\n.type.aw≠5/\n.type.aw≠6 then Z out else O
   |none=>O)
  |none=>O) else O
theorem am5{l:M ah}{at_:M z}{t:jU}(L:bQ aB l<=4194304)(N:at_.length<=4194304)(H:fN (ef t)<=2000000) :
  ∃j,(j=0\/j=1)/\G 422 ([az l,aO at_]++ef t)=Z (j,pW (XV l at_ t)):=by
 rw[p6]at H;have i:=am4 (s:=t.path) (by omega);have C:=Tc t.path;obtain⟨P,k,g⟩:=ajk (at_:=at_) (p:=(qW t.path).1) L N (by omega);have m:∀o,zo l at_ (qW t.path).1=Z o->o.length<=mg:=by
  intro o K;have Q:=Xp K;rw[pY]at C;simp only[bQ,mg]at *;omega
 unfold XV;generalize qW t.path=q at *;obtain⟨p,ok⟩:=q;dsimp only at *;simp only[ej,pW,aq,ay]at i g;by_cases f:t.aw=5
 ·cases ok
  ·rw[if_neg (by simp)];refine⟨0,.inl rfl,dd sq rfl ?_⟩;simp only[go_sem,sq,ef,i,f,eo,pW,dz,bO]
  ·rw[if_pos ⟨f,rfl⟩];cases B:zo l at_ p with
   |none=>
    rw[B]at g;have e:=Xa [] (l:=l) (by simp only[mg];omega) (by simp);simp only[RA,RB,ai,qU,aq,ay]at e;rcases k with rfl|rfl
    ·refine⟨0,.inl rfl,dd sq rfl ?_⟩;simp only[go_sem,sq,ef,i,f,g,dz,bO,qC,Qs,e,eo,pW]
    ·refine⟨0,.inl rfl,dd sq rfl ?_⟩;simp only[go_sem,sq,ef,i,f,g,dz,bO,qC,Qs,e,eo,pW]
   |some out=>
    rw[B]at g;have e:=Xa out (l:=l) (by simp only[mg];omega) (m out B);dsimp only;cases D:RA l out with
    |none=>
     rw[D]at e;simp only[RB,ai,qU,aq,ay]at e;rcases k with rfl|rfl
     ·refine⟨0,.inl rfl,dd sq rfl ?_⟩;simp only[go_sem,sq,ef,i,f,g,dB,cZ,qC,Qs,e,eo,pW,dz,bO]
     ·refine⟨0,.inl rfl,dd sq rfl ?_⟩;simp only[go_sem,sq,ef,i,f,g,dB,cZ,qC,Qs,e,eo,pW,dz,bO]
    |some n=>
     rw[D]at e;simp only[RB]at e;rw[ai]at e;obtain⟨a,y⟩:∃v,Z' (n.aw=3)=v:=⟨_,rfl⟩
     obtain⟨b,x⟩:∃v,Z' (n.aw=4)=v:=⟨_,rfl⟩
     obtain⟨c,w⟩:∃v,Z' (n.type.aw=5)=v:=⟨_,rfl⟩
     obtain⟨d,r⟩:∃v,Z' (n.type.aw=6)=v:=⟨_,rfl⟩
     have F:((n.aw=3\/n.aw=4)/\n.type.aw≠5/\n.type.aw≠6)↔((a ||b) && (!c && !d))=I:=by
      rw[<- y,<- x,<- w,<- r];simp
     dsimp only;rw[show (if (n.aw=3\/n.aw=4)/\n.type.aw≠5/\n.type.aw≠6 then Z out else O)=(if ((a ||b) && (!c && !d))=I then Z out else O) from by
      by_cases A:(n.aw=3\/n.aw=4)/\n.type.aw≠5/\n.type.aw≠6
      ·rw[if_pos A,if_pos (F.1 A)]
      ·rw[if_neg A,if_neg (λh=>A (F.2 h))]]
     rcases k with rfl|rfl
     ·cases a<;>cases b<;>cases c<;>cases d<;>first
       |(refine⟨0,.inl rfl,dd sq rfl ?_⟩;simp only[go_sem,sq,ef,i,f,g,dB,cZ,qC,B5,e,eo,pW,dz,bO,y,x,w,r,ft,ew,ir,fh,ed,fO,eP,dZ,aC,if_true,if_false];done)
       |(refine⟨1,.inr rfl,dd sq rfl ?_⟩;simp only[go_sem,sq,ef,i,f,g,dB,cZ,qC,B5,e,eo,pW,dz,bO,y,x,w,r,ft,ew,ir,fh,ed,fO,eP,dZ,aC,if_true,if_false])
     ·cases a<;>cases b<;>cases c<;>cases d<;>first
       |(refine⟨0,.inl rfl,dd sq rfl ?_⟩;simp only[go_sem,sq,ef,i,f,g,dB,cZ,qC,B5,e,eo,pW,dz,bO,y,x,w,r,ft,ew,ir,fh,ed,fO,eP,dZ,aC,if_true,if_false];done)
       |(refine⟨1,.inr rfl,dd sq rfl ?_⟩;simp only[go_sem,sq,ef,i,f,g,dB,cZ,qC,B5,e,eo,pW,dz,bO,y,x,w,r,ft,ew,ir,fh,ed,fO,eP,dZ,aC,if_true,if_false])
 ·rw[if_neg (λh=>f h.1)];refine⟨0,.inl rfl,dd sq rfl ?_⟩;simp only[go_sem,sq,ef,i,f,eo,pW,dz,bO]
end
section
def xK(at_:M z)(n:ah):M z:=if mc n.aw=I then at_++[n.name_q] else at_
def bdN(l:M ah)(own:M z)(n:ah):u (Int×M z):=
 if qB l own n.when=J then Z (2,own) else if qB l own n.iP=J then Z (3,own) else if n.type.aw=5/\(XV l own n.type).isSome=J then Z (4,own) else O
def uF(l:M ah):M ah->M z->Int×M z
 |[],_=>(0,[])
 |n::a,at_=>match bdN l (xK at_ n) n with
  |some r=>r
  |none=>if (uF l n.ae (xK at_ n)).1=0 then uF l a at_ else uF l n.ae (xK at_ n)
termination_by a=>av a
decreasing_by
 all_goals first
  |exact ah.gI n a
  |(simp only[bo];omega)
theorem iW(c:Int)(l:M z):aK .LJ [.int .i64 c,aO l]=Z (.bool J):=(rfl)
def lJ(l b:M ah)(at_:M z)(R:Nat×M D)(r:Int×M z):Prop:=(∃k,k < 3/\R=(k,[.int .i64 r.1,aO r.2]))\/(r=(0,[])/\∃a,R=(3,[az l,az b,aO at_,a,.bool J]))
theorem lJ.ret{l b:M ah}{at_ own:M z}{c:Int}(k:Nat)(a:k < 3):lJ l b at_ (k,[.int .i64 c,aO own]) (c,own):=.inl ⟨k,a,rfl⟩
theorem ae3(b:Nat){l:M ah}(hl:bQ aB l<=2000000):∀(F:M ah) (at_:M z),av F < b->at_.length+bQ aB F<=4000000->bQ aB F<=2000000->
  ∃j,(j=0\/j=1)/\G 423 [az l,az F,aO at_]=Z (j,[.int .i64 (uF l F at_).1,aO (uF l F at_).2]):=by
 induction b with
 |zero=>intro F at_ h;omega
 |succ b ih=>
  intro F at_ hz Zu Yz;have Ct:F.length<=mg:=by simp only[bQ,mg]at *;omega
  have loop:∀m i,i+m=F.length->∃R,bK (lB G fI) (0,[az l,az F,aO at_,.int .i64 (i:Int)])=Z R/\lJ l F at_ R (uF l (F.drop i) at_):=by
   intro m
   induction m with
   |zero=>
    intro i hm;have d:¬i < F.length:=by omega
    rw[eJ (by omega),uF];refine⟨(3,[az l,az F,aO at_,.int .i64 (i:Int),.bool J]),aF ?_,.inr ⟨rfl,_,rfl⟩⟩;simp only[go_sem,bn,fI,aj,d]
   |succ m V=>
    intro i hm;have d:i < F.length:=by omega
    have U:=dV (l:=F) (i:=i) d;have X:=ig F i _ U;generalize F[i]'d=n at U X;have s:=wj d Ct;have y:=Ij U;have hsn:=eh aB (bz U);have hsc:=dN n;have o:=q75 n.aw;have Nq:(xK at_ n).length<=at_.length+1:=by unfold xK;split<;>simp
    have q:aK (.app 1 16) [aO [],aO at_]=Z (aO at_):=acx (a:=[]) (by simp only[aJ];omega);have p:=acw (l:=at_) (by simp only[mg];omega) n.name_q;have f:=ajl (l:=l) (at_:=xK at_ n) (es:=n.when) (by omega) (by omega) (by omega);have g:=ajl (l:=l) (at_:=xK at_ n) (es:=n.iP) (by omega) (by omega) (by omega);obtain⟨j3,Q,B⟩:=am5 (l:=l) (at_:=xK at_ n) (t:=n.type) (by omega) (by omega) (by omega);obtain⟨j4,N,A⟩:=ih n.ae (xK at_ n) (by have:=aX (bz U);have:=ah.ek n;omega) (by omega) (by omega);obtain⟨S,L,P⟩:=V (i+1) (by omega);simp only[ef,aq,ay,pW]at B;rw[X,uF];have T:xK at_ n=if mc n.aw=I then at_++[n.name_q] else at_:=rfl
    generalize uF l n.ae (xK at_ n)=Y at *;obtain⟨C,K⟩:=Y;dsimp only at *;unfold bdN;obtain⟨v5,x⟩:∃v,Z' (n.type.aw=5)=v:=⟨_,rfl⟩
    obtain⟨v0,e⟩:∃v,Z' (C=0)=v:=⟨_,rfl⟩
    cases W:mc n.aw<;>rw[W]at T o
    ·rw[if_neg (by simp)]at T;rw[T]at f g B A ⊢;cases g1:qB l (at_) n.when<;>rw[g1]at f
     ·rw[if_pos rfl];dsimp only;exact⟨(2,[.int .i64 2,aO (at_)]),aF (by simp only[go_sem,bn,fI,aj,d,y,ba,ai,o,eo,fT,q,p,qC,sd,iW,s,f]),lJ.ret 2 (by omega)⟩
     rw[if_neg (by simp)];cases g2:qB l (at_) n.iP<;>rw[g2]at g
     ·rw[if_pos rfl];dsimp only;exact⟨(2,[.int .i64 3,aO (at_)]),aF (by simp only[go_sem,bn,fI,aj,d,y,ba,ai,o,eo,fT,q,p,qC,sd,iW,s,f,g]),lJ.ret 2 (by omega)⟩
     rw[if_neg (by simp)];cases v5
     ·have H:¬n.type.aw=5:=by simpa using x
      rw[if_neg (λh=>H h.1)];dsimp only;cases v0
      ·have D:¬C=0:=by simpa using e
       rw[if_neg D];rcases N with rfl|rfl
       ·exact⟨(1,[.int .i64 C,aO K]),aF (by simp only[go_sem,bn,fI,aj,d,y,ba,ai,o,eo,fT,q,p,qC,sd,iW,s,f,g,x,A,e]),lJ.ret 1 (by omega)⟩
       ·exact⟨(2,[.int .i64 C,aO K]),aF (by simp only[go_sem,bn,fI,aj,d,y,ba,ai,o,eo,fT,q,p,qC,sd,iW,s,f,g,x,A,e]),lJ.ret 2 (by omega)⟩
      ·have D:C=0:=by simpa using e
       rw[if_pos D];refine⟨S,(bB ?_).trans L,P⟩;rcases N with rfl|rfl
       ·simp only[go_sem,bn,fI,aj,d,y,ba,ai,o,eo,fT,q,p,qC,sd,iW,s,f,g,x,A,e]
       ·simp only[go_sem,bn,fI,aj,d,y,ba,ai,o,eo,fT,q,p,qC,sd,iW,s,f,g,x,A,e]
     ·have H:n.type.aw=5:=by simpa using x
      cases g3:(XV l (at_) n.type).isSome<;>rw[g3]at B
      ·rw[if_pos ⟨H,rfl⟩];dsimp only;rcases Q with rfl|rfl
       ·exact⟨(2,[.int .i64 4,aO (at_)]),aF (by simp only[go_sem,bn,fI,aj,d,y,ba,ai,o,eo,fT,q,p,qC,sd,iW,s,f,g,B,x]),lJ.ret 2 (by omega)⟩
       ·exact⟨(2,[.int .i64 4,aO (at_)]),aF (by simp only[go_sem,bn,fI,aj,d,y,ba,ai,o,eo,fT,q,p,qC,sd,iW,s,f,g,B,x]),lJ.ret 2 (by omega)⟩
      ·rw[if_neg (by simp)];dsimp only;rcases Q with rfl|rfl
       ·skip
        cases v0
        ·have D:¬C=0:=by simpa using e
         rw[if_neg D];rcases N with rfl|rfl
         ·exact⟨(1,[.int .i64 C,aO K]),aF (by simp only[go_sem,bn,fI,aj,d,y,ba,ai,o,eo,fT,q,p,qC,sd,iW,s,f,g,B,x,A,e]),lJ.ret 1 (by omega)⟩
         ·exact⟨(2,[.int .i64 C,aO K]),aF (by simp only[go_sem,bn,fI,aj,d,y,ba,ai,o,eo,fT,q,p,qC,sd,iW,s,f,g,B,x,A,e]),lJ.ret 2 (by omega)⟩
        ·have D:C=0:=by simpa using e
         rw[if_pos D];refine⟨S,(bB ?_).trans L,P⟩;rcases N with rfl|rfl
         ·simp only[go_sem,bn,fI,aj,d,y,ba,ai,o,eo,fT,q,p,qC,sd,iW,s,f,g,B,x,A,e]
         ·simp only[go_sem,bn,fI,aj,d,y,ba,ai,o,eo,fT,q,p,qC,sd,iW,s,f,g,B,x,A,e]
       ·skip
        cases v0
        ·have D:¬C=0:=by simpa using e
         rw[if_neg D];rcases N with rfl|rfl
         ·exact⟨(1,[.int .i64 C,aO K]),aF (by simp only[go_sem,bn,fI,aj,d,y,ba,ai,o,eo,fT,q,p,qC,sd,iW,s,f,g,B,x,A,e]),lJ.ret 1 (by omega)⟩
         ·exact⟨(2,[.int .i64 C,aO K]),aF (by simp only[go_sem,bn,fI,aj,d,y,ba,ai,o,eo,fT,q,p,qC,sd,iW,s,f,g,B,x,A,e]),lJ.ret 2 (by omega)⟩
        ·have D:C=0:=by simpa using e
         rw[if_pos D];refine⟨S,(bB ?_).trans L,P⟩;rcases N with rfl|rfl
         ·simp only[go_sem,bn,fI,aj,d,y,ba,ai,o,eo,fT,q,p,qC,sd,iW,s,f,g,B,x,A,e]
         ·simp only[go_sem,bn,fI,aj,d,y,ba,ai,o,eo,fT,q,p,qC,sd,iW,s,f,g,B,x,A,e]
    ·rw[if_pos rfl]at T;rw[T]at f g B A ⊢;cases g1:qB l (at_++[n.name_q]) n.when<;>rw[g1]at f
     ·rw[if_pos rfl];dsimp only;exact⟨(0,[.int .i64 2,aO (at_++[n.name_q])]),aF (by simp only[go_sem,bn,fI,aj,d,y,ba,ai,o,eo,fT,q,p,qC,sd,iW,s,f]),lJ.ret 0 (by omega)⟩
     rw[if_neg (by simp)];cases g2:qB l (at_++[n.name_q]) n.iP<;>rw[g2]at g
     ·rw[if_pos rfl];dsimp only;exact⟨(0,[.int .i64 3,aO (at_++[n.name_q])]),aF (by simp only[go_sem,bn,fI,aj,d,y,ba,ai,o,eo,fT,q,p,qC,sd,iW,s,f,g]),lJ.ret 0 (by omega)⟩
     rw[if_neg (by simp)];cases v5
     ·have H:¬n.type.aw=5:=by simpa using x
      rw[if_neg (λh=>H h.1)];dsimp only;cases v0
      ·have D:¬C=0:=by simpa using e
       rw[if_neg D];rcases N with rfl|rfl
       ·exact⟨(1,[.int .i64 C,aO K]),aF (by simp only[go_sem,bn,fI,aj,d,y,ba,ai,o,eo,fT,q,p,qC,sd,iW,s,f,g,x,A,e]),lJ.ret 1 (by omega)⟩
       ·exact⟨(2,[.int .i64 C,aO K]),aF (by simp only[go_sem,bn,fI,aj,d,y,ba,ai,o,eo,fT,q,p,qC,sd,iW,s,f,g,x,A,e]),lJ.ret 2 (by omega)⟩
      ·have D:C=0:=by simpa using e
       rw[if_pos D];refine⟨S,(bB ?_).trans L,P⟩;rcases N with rfl|rfl
       ·simp only[go_sem,bn,fI,aj,d,y,ba,ai,o,eo,fT,q,p,qC,sd,iW,s,f,g,x,A,e]
       ·simp only[go_sem,bn,fI,aj,d,y,ba,ai,o,eo,fT,q,p,qC,sd,iW,s,f,g,x,A,e]
     ·have H:n.type.aw=5:=by simpa using x
      cases g3:(XV l (at_++[n.name_q]) n.type).isSome<;>rw[g3]at B
      ·rw[if_pos ⟨H,rfl⟩];dsimp only;rcases Q with rfl|rfl
       ·exact⟨(0,[.int .i64 4,aO (at_++[n.name_q])]),aF (by simp only[go_sem,bn,fI,aj,d,y,ba,ai,o,eo,fT,q,p,qC,sd,iW,s,f,g,B,x]),lJ.ret 0 (by omega)⟩
       ·exact⟨(0,[.int .i64 4,aO (at_++[n.name_q])]),aF (by simp only[go_sem,bn,fI,aj,d,y,ba,ai,o,eo,fT,q,p,qC,sd,iW,s,f,g,B,x]),lJ.ret 0 (by omega)⟩
      ·rw[if_neg (by simp)];dsimp only;rcases Q with rfl|rfl
       ·skip
        cases v0
        ·have D:¬C=0:=by simpa using e
         rw[if_neg D];rcases N with rfl|rfl
         ·exact⟨(1,[.int .i64 C,aO K]),aF (by simp only[go_sem,bn,fI,aj,d,y,ba,ai,o,eo,fT,q,p,qC,sd,iW,s,f,g,B,x,A,e]),lJ.ret 1 (by omega)⟩
         ·exact⟨(2,[.int .i64 C,aO K]),aF (by simp only[go_sem,bn,fI,aj,d,y,ba,ai,o,eo,fT,q,p,qC,sd,iW,s,f,g,B,x,A,e]),lJ.ret 2 (by omega)⟩
        ·have D:C=0:=by simpa using e
         rw[if_pos D];refine⟨S,(bB ?_).trans L,P⟩;rcases N with rfl|rfl
         ·simp only[go_sem,bn,fI,aj,d,y,ba,ai,o,eo,fT,q,p,qC,sd,iW,s,f,g,B,x,A,e]
         ·simp only[go_sem,bn,fI,aj,d,y,ba,ai,o,eo,fT,q,p,qC,sd,iW,s,f,g,B,x,A,e]
       ·skip
        cases v0
        ·have D:¬C=0:=by simpa using e
         rw[if_neg D];rcases N with rfl|rfl
         ·exact⟨(1,[.int .i64 C,aO K]),aF (by simp only[go_sem,bn,fI,aj,d,y,ba,ai,o,eo,fT,q,p,qC,sd,iW,s,f,g,B,x,A,e]),lJ.ret 1 (by omega)⟩
         ·exact⟨(2,[.int .i64 C,aO K]),aF (by simp only[go_sem,bn,fI,aj,d,y,ba,ai,o,eo,fT,q,p,qC,sd,iW,s,f,g,B,x,A,e]),lJ.ret 2 (by omega)⟩
        ·have D:C=0:=by simpa using e
         rw[if_pos D];refine⟨S,(bB ?_).trans L,P⟩;rcases N with rfl|rfl
         ·simp only[go_sem,bn,fI,aj,d,y,ba,ai,o,eo,fT,q,p,qC,sd,iW,s,f,g,B,x,A,e]
         ·simp only[go_sem,bn,fI,aj,d,y,ba,ai,o,eo,fT,q,p,qC,sd,iW,s,f,g,B,x,A,e]
  obtain⟨R,L,P⟩:=loop F.length 0 (by omega);rw[n0]at L;rw[cK]at P;generalize uF l F at_=r at *;obtain⟨c,w⟩:=r;rcases P with ⟨k,hk,rfl⟩|⟨h,i',rfl⟩
  ·have:k=0\/k=1\/k=2:=by omega
   rcases this with rfl|rfl|rfl
   ·refine⟨0,.inl rfl,dd Md rfl ?_⟩;simp only[go_sem,Md,L]
   ·refine⟨0,.inl rfl,dd Md rfl ?_⟩;simp only[go_sem,Md,L]
   ·refine⟨1,.inr rfl,dd Md rfl ?_⟩;simp only[go_sem,Md,L]
  ·cases h;refine⟨0,.inl rfl,dd Md rfl ?_⟩;simp only[go_sem,Md,L];rfl
end
inductive AV where
 |int (lo hi:Int)
 |u8
 |BW (o:Option Bool)
 |str (n:Nat)
 |nil (k:Nat) (fl:Bool)
 |lst (t lo n:Nat)
 |u6 (n:Int)
 |any
 |Pa (cs:List AV)
 |Fj (d:D)
mutual
def eU:AV->D->Prop
 | .int f h,d=>∃n,d=.int .i64 n/\f<=n/\n<=h/\-9223372036854775808<=n/\n<=9223372036854775807
 | .u8,d=>∃n,d=.int .u8 n/\0<=n/\n<=255
 | .BW o,d=>∃b,d=.bool b/\∀c,o=Z c->b=c
 | .str n,d=>∃s,d=.str s/\s.size<=n
 | .nil k i,d=>d=.list k i []
 | .lst t f n,d=>∃es,d=.list (kw t) (Bt t) es/\hO maxLen t es/\f<=es.length/\es.length+nG es<=n/\n<=134217728
 | .u6 n,d=>d=.int .u64 n
 | .any,_=>True
 | .Pa cs,d=>∃e,d=.list 0 J [e]/\cd cs e
 | .Fj x,d=>d=x
def cd:List AV->List D->Prop
 |[],[]=>True
 |a::g,d::e=>eU a d/\cd g e
 |_,_=>False
end
theorem pJ:∀{b:M AV} {c:M D},cd b c->b.length=c.length
 |[],[],_=>rfl
 |a::b,d::c,h=>by
  simp only[cd]at h;rw[aE,aE,pJ h.2]
 |[],d::c,h=>by simp only[cd]at h
 |a::b,[],h=>by simp only[cd]at h
theorem yC:∀{b c:M AV} {e es:M D},cd b e->cd c es->cd (b++c) (e++es)
 |[],c,[],es,_,h=>h
 |a::b,c,d::e,es,f,g=>by
  simp only[aq,cd]at f ⊢;exact⟨f.1,yC f.2 g⟩
 |[],c,d::e,es,h,_=>by simp only[cd]at h
 |a::b,c,[],es,h,_=>by simp only[cd]at h
theorem La{a:AV}{d:D}(h:eU a d):cd [a] [d]:=by simp only[cd];exact⟨h,trivial⟩
theorem rO:∀{as_:M AV} {ds:M D} {i:Nat} {a:AV},cd as_ ds->nth as_ i=Z a->∃d,nth ds i=Z d/\eU a d
 |b::as_,d::ds,0,a,h,c=>by
  simp only[cd]at h;cases c;exact⟨d,rfl,h.1⟩
 |b::as_,d::ds,i+1,a,h,c=>by
  simp only[cd]at h;exact rO (as_:=as_) (ds:=ds) h.2 c
 |[],_,_,_,_,c=>by cases c
 |a::as_,[],_,_,h,_=>by simp only[cd]at h
theorem Dk:∀{c:M AV} {f:M D} {i:Nat} {a:AV} {d:D},cd c f->nth f i=Z d->eU a d->cd (c.set i a) f
 |b::c,j::f,0,a,d,h,e,g=>by
  simp only[cd,List.set_cons_zero]at h ⊢;cases e;exact⟨g,h.2⟩
 |b::c,j::f,i+1,a,d,h,e,g=>by
  simp only[cd,List.set_cons_succ]at h ⊢;exact⟨h.1,Dk h.2 e g⟩
 |[],[],_,_,_,h,e,_=>by cases e
 |[],_::_,_,_,_,h,_,_=>by simp only[cd]at h
 |a::c,[],_,_,_,h,_,_=>by simp only[cd]at h
def mn(a b:Int):Int:=if a<=b then a else b
def mxI(a b:Int):Int:=if a<=b then b else a
def nMn(a b:Nat):Nat:=match gV a b with
 |true=>a
 |false=>b
def nMx(a b:Nat):Nat:=match gV a b with
 |true=>b
 |false=>a
theorem Ww(a b:Nat):nMn a b<=a/\nMn a b<=b:=by
 unfold nMn;cases h:gV a b
 ·have:¬a<=b:=λc=>by rw[w_ c]at h;cases h
  dsimp only;exact⟨by omega,au _⟩
 ·exact⟨au _,ib h⟩
theorem Jd(a b:Nat):a<=nMx a b/\b<=nMx a b:=by
 unfold nMx;cases h:gV a b
 ·have:¬a<=b:=λc=>by rw[w_ c]at h;cases h
  dsimp only;exact⟨au _,by omega⟩
 ·exact⟨ib h,au _⟩
mutual
def jn:AV->AV->AV
 | .int a b,.int c d=>.int (mn a c) (mxI b d)
 | .u8,.u8=>.u8
 | .BW a,.BW b=>.BW (if a=b then a else O)
 | .str a,.str b=>.str (nMx a b)
 | .nil k f,.nil o l=>if k=o/\f=l then .nil k f else .any
 | .nil k f,.lst t h n=>if k=kw t/\f=Bt t/\n<=134217728 then .lst t 0 n else .any
 | .lst t h n,.nil k f=>if k=kw t/\f=Bt t/\n<=134217728 then .lst t 0 n else .any
 | .lst t h n,.lst j g i=>if t=j/\n<=134217728/\i<=134217728 then .lst t (nMn h g) (nMx n i) else .any
 | .u6 n,.u6 m=>if n=m then .u6 n else .any
 | .Pa a,.Pa b=>if a.length=b.length then .Pa (jns a b) else .any
 |_,_=>.any
def jns:List AV->List AV->List AV
 |a::e,b::p=>jn a b::jns e p
 |e,_=>e
end
mutual
theorem adA:∀{a b:AV} {d:D},eU a d->eU (jn a b) d
 | .int s K,b,d,h=>by
  cases b with
  |int c e=>
   simp only[jn,eU]at h ⊢;obtain⟨n,f,j,v,p⟩:=h;refine⟨n,f,?_,?_,p⟩
   ·unfold mn;split<;>omega
   ·unfold mxI;split<;>omega
  |_=>simp only[jn,eU]
 | .u8,b,d,h=>by
  cases b with
  |u8=>simpa only [jn] using h
  |_=>simp only[jn,eU]
 | .BW o,b,d,h=>by
  cases b with
  |BW F=>
   simp only[jn,eU]at h ⊢;obtain⟨x,f,j⟩:=h;refine⟨x,f,λc i=>?_⟩
   split at i
   ·exact j c i
   ·cases i
  |_=>simp only[jn,eU]
 | .str n,b,d,h=>by
  cases b with
  |str m=>
   simp only[jn,eU]at h ⊢;obtain⟨x,f,j⟩:=h;exact⟨x,f,aL j (Jd n m).1⟩
  |_=>simp only[jn,eU]
 | .nil k A,b,d,h=>by
  cases b with
  |nil G C=>
   simp only[jn];split
   ·exact h
   ·simp only[eU]
  |lst t s n=>
   simp only[jn];split
   ·rename_i i;simp only[eU]at h ⊢;exact⟨[],by rw[h,i.1,i.2.1],by simp only[hO],cB _,by simp[nG],i.2.2⟩
   ·simp only[eU]
  |_=>simp only[jn,eU]
 | .lst t s n,b,d,h=>by
  cases b with
  |nil k A=>
   simp only[jn];split
   ·simp only[eU]at h ⊢;obtain⟨es,f,j,v,p⟩:=h;exact⟨es,f,j,cB _,p⟩
   ·simp only[eU]
  |lst B r w=>
   simp only[jn];split
   ·rename_i i;simp only[eU]at h ⊢;obtain⟨es,f,j,v,p,L⟩:=h;have a1:=Ww s r;have a2:=Jd n w;refine⟨es,f,j,by omega,by omega,?_⟩;unfold nMx
    split<;>omega
   ·simp only[eU]
  |_=>simp only[jn,eU]
 | .u6 n,b,d,h=>by
  cases b with
  |u6 m=>
   simp only[jn];split
   ·exact h
   ·simp only[eU]
  |_=>simp only[jn,eU]
 | .any,b,d,h=>by cases b<;>simp only[jn,eU]
 | .Fj x,b,d,h=>by cases b<;>simp only[jn,eU]
 | .Pa cs,b,d,h=>by
  cases b with
  |Pa H=>
   simp only[jn];split
   ·rename_i i;simp only[eU]at h ⊢;obtain⟨l,f,j⟩:=h;exact⟨l,f,abU i j⟩
   ·simp only[eU]
  |_=>simp only[jn,eU]
theorem abU:∀{g q:List AV} {l:List D},g.length=q.length->cd g l->cd (jns g q) l
 |[],[],l,_,h=>h
 |a::g,b::q,[],_,h=>by simp only[cd]at h
 |a::g,b::q,d::l,y,h=>by
  simp only[cd,jns]at h ⊢;exact⟨adA h.1,abU (by simpa using y) h.2⟩
end
mutual
theorem adB:∀{a b:AV} {d:D},eU b d->eU (jn a b) d
 |b,.int s L,d,h=>by
  cases b with
  |int c e=>
   simp only[jn,eU]at h ⊢;obtain⟨n,g,i,v,q⟩:=h;refine⟨n,g,?_,?_,q⟩
   ·unfold mn;split<;>omega
   ·unfold mxI;split<;>omega
  |_=>simp only[jn,eU]
 |b,.u8,d,h=>by
  cases b with
  |u8=>simpa only [jn] using h
  |_=>simp only[jn,eU]
 |b,.BW o,d,h=>by
  cases b with
  |BW G=>
   simp only[jn,eU]at h ⊢;obtain⟨x,g,i⟩:=h;refine⟨x,g,λc f=>?_⟩
   split at f
   ·rename_i A;exact i c (A▸f)
   ·cases f
  |_=>simp only[jn,eU]
 |b,.str n,d,h=>by
  cases b with
  |str m=>
   simp only[jn,eU]at h ⊢;obtain⟨x,g,i⟩:=h;exact⟨x,g,aL i (Jd m n).2⟩
  |_=>simp only[jn,eU]
 |b,.nil k B,d,h=>by
  cases b with
  |nil H F=>
   simp only[jn];split
   ·rename_i f;rw[f.1,f.2];exact h
   ·simp only[eU]
  |lst t s n=>
   simp only[jn];split
   ·rename_i f;simp only[eU]at h ⊢;exact⟨[],by rw[h,f.1,f.2.1],by simp only[hO],cB _,by simp[nG],f.2.2⟩
   ·simp only[eU]
  |_=>simp only[jn,eU]
 |b,.lst t s n,d,h=>by
  cases b with
  |nil k B=>
   simp only[jn];split
   ·simp only[eU]at h ⊢;obtain⟨es,g,i,v,q⟩:=h;exact⟨es,g,i,cB _,q⟩
   ·simp only[eU]
  |lst C r w=>
   simp only[jn];split
   ·rename_i f;simp only[eU]at h ⊢;obtain⟨es,g,i,v,q,N⟩:=h;have a1:=Ww r s;have a2:=Jd w n;refine⟨es,by rw[f.1];exact g,by rw[f.1];exact i,by omega,by omega,?_⟩;unfold nMx
    split<;>omega
   ·simp only[eU]
  |_=>simp only[jn,eU]
 |b,.u6 n,d,h=>by
  cases b with
  |u6 m=>
   simp only[jn];split
   ·rename_i f;rw[f];exact h
   ·simp only[eU]
  |_=>simp only[jn,eU]
 |b,.any,d,h=>by cases b<;>simp only[jn,eU]
 |b,.Fj x,d,h=>by cases b<;>simp only[jn,eU]
 |b,.Pa cs,d,h=>by
  cases b with
  |Pa K=>
   simp only[jn];split
   ·rename_i f;simp only[eU]at h ⊢;obtain⟨l,g,i⟩:=h;exact⟨l,g,abV f i⟩
   ·simp only[eU]
  |_=>simp only[jn,eU]
theorem abV:∀{j p:List AV} {l:List D},j.length=p.length->cd p l->cd (jns j p) l
 |[],[],l,_,h=>h
 |a::j,b::p,[],_,h=>by simp only[cd]at h
 |a::j,b::p,d::l,y,h=>by
  simp only[cd,jns]at h ⊢;exact⟨adB h.1,abV (by simpa using y) h.2⟩
end
mutual
def eqD:D->D->Bool
 | .int k n,.int d g=>(k ==d) && (n ==g)
 | .bool a,.bool b=>a ==b
 | .str s,.str t=>decide (s=t)
 | .list k f es,.list d i h=>fj k d && ((f ==i) && eqE es h)
 |_,_=>J
def eqC:List D->List D->Bool
 |[],[]=>I
 |a::c,b::e=>eqD a b && eqC c e
 |_,_=>J
def eqE:List (List D)->List (List D)->Bool
 |[],[]=>I
 |a::c,b::e=>eqC a b && eqE c e
 |_,_=>J
end
mutual
theorem UU:∀{a b:D},eqD a b=I->a=b
 | .int k n,.int d g,h=>by simp only[eqD,af,beq_iff_eq]at h;rw[h.1,h.2]
 | .bool a,.bool b,h=>by simp only[eqD,beq_iff_eq]at h;rw[h]
 | .str s,.str t,h=>by simp only[eqD,decide_eq_true_eq]at h;rw[h]
 | .list k f es,.list d j i,h=>by
  simp only[eqD,af,beq_iff_eq,rE]at h;rw[h.1,h.2.1,UW h.2.2]
 | .int _ _,.bool _,h | .int _ _,.str _,h | .int _ _,.list _ _ _,h | .bool _,.int _ _,h | .bool _,.str _,h | .bool _,.list _ _ _,h | .str _,.int _ _,h | .str _,.bool _,h | .str _,.list _ _ _,h | .list _ _ _,.int _ _,h | .list _ _ _,.bool _,h | .list _ _ _,.str _,h=>by simp only[eqD]at h;cases h
theorem UT:∀{a b:List D},eqC a b=I->a=b
 |[],[],_=>rfl
 |a::c,b::e,h=>by
  simp only[eqC,af]at h;rw[UU h.1,UT h.2]
 |[],_::_,h|_::_,[],h=>by simp only[eqC]at h;cases h
theorem UW:∀{a b:List (List D)},eqE a b=I->a=b
 |[],[],_=>rfl
 |a::c,b::e,h=>by
  simp only[eqE,af]at h;rw[UT h.1,UW h.2]
 |[],_::_,h|_::_,[],h=>by simp only[eqE]at h;cases h
end
mutual
def okb:Ty->D->Bool
 | .int,.int k n=>(k == .i64) && (decide (-9223372036854775808<=n) && decide (n<=9223372036854775807))
 | .bool,.bool _=>I
 | .str,.str s=>gV s.size 134217728
 | .byte,.int k n=>(k == .u8) && (decide (0<=n) && decide (n<=255))
 | .list t,.list k f es=>fj k (kw t) && ((f ==Bt t) && (gV es.length 134217728 && aao t es))
 |_,_=>J
def WI:List Ty->List D->Bool
 |[],[]=>I
 |t::a,d::b=>okb t d && WI a b
 |_,_=>J
def aao(t:Nat):List (List D)->Bool
 |[]=>I
 |e::es=>WI (lay t) e && aao t es
end
mutual
theorem WH:∀{t:Ty} {d:D},okb t d=I->Ok maxLen t d
 | .int,.int k n,h=>by simp only[okb,af,beq_iff_eq,decide_eq_true_eq]at h;simp only[Ok];exact h
 | .bool,.bool _,_=>by simp only[Ok]
 | .str,.str s,h=>by
  simp only[okb]at h;have:=ib h;simp only[Ok,maxLen];omega
 | .byte,.int k n,h=>by simp only[okb,af,beq_iff_eq,decide_eq_true_eq]at h;simp only[Ok];exact h
 | .list t,.list k f es,h=>by
  simp only[okb,af,beq_iff_eq,rE]at h;have:=ib h.2.2.1;simp only[Ok];exact⟨h.1,h.2.1,by simp only[maxLen];omega,Ql h.2.2.2⟩
 | .int,.bool _,h | .int,.str _,h | .int,.list _ _ _,h | .bool,.int _ _,h | .bool,.str _,h | .bool,.list _ _ _,h | .str,.int _ _,h | .str,.bool _,h | .str,.list _ _ _,h | .list _,.int _ _,h | .list _,.bool _,h | .list _,.str _,h | .byte,.bool _,h | .byte,.str _,h | .byte,.list _ _ _,h=>by simp only[okb]at h;cases h
theorem Qk:∀{a:List Ty} {b:List D},WI a b=I->gX maxLen a b
 |[],[],_=>by simp only[gX]
 |t::a,d::b,h=>by
  simp only[WI,af]at h;simp only[gX];exact⟨WH h.1,Qk h.2⟩
 |[],_::_,h|_::_,[],h=>by simp only[WI]at h;cases h
theorem Ql{t:Nat}:∀{es:List (List D)},aao t es=I->hO maxLen t es
 |[],_=>by simp only[hO]
 |e::es,h=>by
  simp only[aao,af]at h;simp only[hO];exact⟨Qk h.1,Ql h.2⟩
end
def wkL(k:Nat)(a:Bool)(es:M (M D)):Nat->Nat->u Nat
 |0,_=>O
 |m+1,t=>if okb (.list t) (.list k a es)=I then Z t else wkL k a es m (t+1)
theorem X7{k:Nat}{a:Bool}{es:M (M D)}:∀{m t r:Nat},wkL k a es m t=Z r->okb (.list r) (.list k a es)=I
 |0,_,_,h=>by cases h
 |m+1,t,r,h=>by
  unfold wkL at h
  split at h
  ·rename_i b;cases h;exact b
  ·exact X7 h
def wkD:D->AV
 | .int .i64 n=>if -9223372036854775808<=n/\n<=9223372036854775807 then .int n n else .any
 | .int .u8 n=>if 0<=n/\n<=255 then .u8 else .any
 | .int .u64 n=>.u6 n
 | .int _ _=>.any
 | .bool b=>.BW (Z b)
 | .str s=>.str s.size
 | .list 0 _ _=>.any
 | .list (k+1) a []=>.nil (k+1) a
 | .list (k+1) a (e::es)=>match wkL (k+1) a (e::es) 32 0 with
  |some t=>if (e::es).length+nG (e::es)<=134217728 then .lst t (e::es).length ((e::es).length+nG (e::es)) else .any
  |none=>.any
theorem OG(d:D):eU (wkD d) d:=by
 unfold wkD;split
 ·split
  ·rename_i h;simp only[eU];exact⟨_,rfl,yb _,yb _,h.1,h.2⟩
  ·simp only[eU]
 ·split
  ·rename_i h;simp only[eU];exact⟨_,rfl,h.1,h.2⟩
  ·simp only[eU]
 ·simp only[eU]
 ·simp only[eU]
 ·simp only[eU];exact⟨_,rfl,λc e=>by cases e;rfl⟩
 ·simp only[eU];exact⟨_,rfl,au _⟩
 ·simp only[eU]
 ·simp only[eU]
 ·split
  ·rename_i t a;split
   ·rename_i b;have h:=WH (X7 a);simp only[Ok]at h;simp only[eU];exact⟨_,by rw[<- h.1,<- h.2.1],h.2.2.2,au _,au _,b⟩
   ·simp only[eU]
  ·simp only[eU]
def wk:AV->AV
 | .Fj d=>wkD d
 |a=>a
theorem BT{a:AV}{d:D}(h:eU a d):eU (wk a) d:=by
 unfold wk;split
 ·simp only[eU]at h;rw[h];exact OG _
 ·exact h
def jq:AV->AV->AV
 | .Fj d,.Fj e=>if eqD d e=I then .Fj d else jn (wkD d) (wkD e)
 |a,b=>jn (wk a) (wk b)
theorem ahp{a b:AV}{d:D}(h:eU a d):eU (jq a b) d:=by
 unfold jq;split
 ·rename_i x y;split
  ·exact h
  ·simp only[eU]at h;rw[h];exact adA (OG x)
 ·exact adA (BT h)
theorem ahq{a b:AV}{d:D}(h:eU b d):eU (jq a b) d:=by
 unfold jq;split
 ·rename_i x y;split
  ·rename_i c;rw[UU c];exact h
  ·simp only[eU]at h;rw[h];exact adB (OG y)
 ·exact adB (BT h)
def jqs:M AV->M AV->M AV
 |a::c,b::d=>jq a b::jqs c d
 |c,_=>c
theorem V4:∀{c f:M AV} {e:M D},c.length=f.length->cd c e->cd (jqs c f) e
 |[],[],e,_,h=>h
 |a::c,b::f,[],_,h=>by simp only[cd]at h
 |a::c,b::f,d::e,g,h=>by
  simp only[cd,jqs]at h ⊢;exact⟨ahp h.1,V4 (by simpa using g) h.2⟩
theorem V5:∀{c e:M AV} {f:M D},c.length=e.length->cd e f->cd (jqs c e) f
 |[],[],f,_,h=>h
 |a::c,b::e,[],_,h=>by simp only[cd]at h
 |a::c,b::e,d::f,g,h=>by
  simp only[cd,jqs]at h ⊢;exact⟨ahq h.1,V5 (by simpa using g) h.2⟩
def YI:M AV->M AV
 |[]=>[]
 |a::b=>wk a::YI b
theorem vw:∀{b:M AV} {c:M D},cd b c->cd (YI b) c
 |[],[],h=>h
 |a::b,d::c,h=>by
  simp only[cd,YI]at h ⊢;exact⟨BT h.1,vw h.2⟩
 |[],_::_,h|_::_,[],h=>by simp only[cd]at h
def Kw:M AV->u (M D)
 |[]=>Z []
 | .Fj d::a=>match Kw a with
  |some b=>Z (d::b)
  |none=>O
 |_::_=>O
theorem OZ:∀{b:M AV} {e es:M D},Kw b=Z es->cd b e->e=es
 |[],[],es,h,_=>by cases h;rfl
 |[],_::_,_,_,c=>by simp only[cd]at c
 |a::b,[],_,_,c=>by simp only[cd]at c
 |a::b,d::e,es,h,c=>by
  cases a with
  |Fj x=>
   unfold Kw at h
   split at h
   ·rename_i l f;cases h;simp only[cd,eU]at c;rw[c.1,OZ f c.2]
   ·cases h
  |_=>simp only[Kw]at h;cases h
def Ou:AV->Nat
 | .str n=>n
 | .lst _ _ n=>n
 |_=>0
def zy:M AV->Nat
 |[]=>0
 |a::b=>Ou a+zy b
def ad2:Ty->AV->Bool
 | .int,.int _ _=>I
 | .bool,.BW _=>I
 | .str,.str n=>gV n 134217728
 | .byte,.u8=>I
 | .list t,.lst a _ _=>fj t a
 | .list t,.nil k b=>fj k (kw t) && (b ==Bt t)
 |_,_=>J
def FG:M Ty->M AV->Bool
 |[],[]=>I
 |t::c,a::b=>ad2 t a && FG c b
 |_,_=>J
theorem aan{t:Ty}{a:AV}{d:D}(h:ad2 t a=I)(c:eU a d):Ok maxLen t d/\d.sz<=Ou a:=by
 cases t<;>cases a<;>simp only[ad2]at h<;>try cases h
 ·simp only[eU]at c;obtain⟨n,rfl,_,_,e,f⟩:=c;simp only[Ok,D.sz,Ou];exact⟨⟨trivial,e,f⟩,au _⟩
 ·simp only[eU]at c;obtain⟨b,rfl,_⟩:=c;simp[Ok,D.sz]
 ·simp only[eU]at c;obtain⟨s,rfl,e⟩:=c;have:=ib h;simp only[Ok,D.sz,Ou];exact⟨by simp only[maxLen];omega,e⟩
 ·simp only[eU]at c;obtain⟨n,rfl,e,f⟩:=c;simp only[Ok,D.sz,Ou];exact⟨⟨trivial,e,f⟩,au _⟩
 ·simp only[eU]at c;simp only[af,beq_iff_eq,rE]at h;subst c;simp only[Ok,hO,D.sz,nG,Ou,aJ];exact⟨⟨h.1,h.2,cB _,trivial⟩,au _⟩
 ·simp only[eU]at c;obtain⟨es,rfl,e,f,g,i⟩:=c;have:=gl h;subst this;simp only[Ok,D.sz,Ou];exact⟨⟨trivial,trivial,by simp only[maxLen];omega,e⟩,g⟩
theorem Jg:∀{f:M Ty} {b:M AV} {e:M D},FG f b=I->cd b e->gX maxLen f e/\fN e<=zy b
 |[],[],[],_,_=>by simp[gX,fN]
 |t::f,a::b,d::e,h,c=>by
  simp only[FG,af]at h;simp only[cd]at c;obtain⟨i,k⟩:=aan h.1 c.1;obtain⟨g,j⟩:=Jg h.2 c.2;simp only[gX,fN,zy];exact⟨⟨i,g⟩,by omega⟩
 |[],[],_::_,_,c=>by simp only[cd]at c
 |_::_,_::_,[],_,c=>by simp only[cd]at c
 |[],_::_,_,h,_=>by simp[FG]at h
 |_::_,[],_,h,_=>by simp[FG]at h
def Ko(n:Nat):Ty->AV
 | .int=>.int (-9223372036854775808) 9223372036854775807
 | .bool=>.BW O
 | .str=>.str n
 | .byte=>.u8
 | .list t=>.lst t 0 n
theorem Y3{n:Nat}(g:n<=134217728){t:Ty}{d:D}(h:Ok maxLen t d)(f:d.sz<=n):eU (Ko n t) d:=by
 cases t with
 |int=>obtain⟨m,rfl,e,a⟩:=h.lU;simp only[Ko,eU];exact⟨m,rfl,e,a,e,a⟩
 |bool=>obtain⟨b,rfl⟩:=h.na;simp only[Ko,eU];exact⟨b,rfl,λc h=>by cases h⟩
 |str=>obtain⟨s,rfl,e⟩:=h.j9;simp only[Ko,eU];exact⟨s,rfl,f⟩
 |byte=>obtain⟨m,rfl,e,a⟩:=h.rI;simp only[Ko,eU];exact⟨m,rfl,e,a⟩
 |list t=>obtain⟨es,rfl,e,a⟩:=h.jE;simp only[Ko,eU];exact⟨es,rfl,a,cB _,f,g⟩
theorem Kp{n:Nat}(c:n<=134217728):∀{b:M Ty} {a:M D},gX maxLen b a->fN a<=n->cd (b.map (Ko n)) a
 |[],a,h,_=>by rw[h.jF];simp only[cE,cd]
 |t::b,a,h,d=>by
  obtain⟨x,g,rfl,f,e⟩:=h.cons_inv;simp only[fN]at d;simp only[aW,cd];exact⟨Y3 c f (by omega),Kp c e (by omega)⟩
theorem XP{es:M (M D)}{i:Nat}{e:M D}(h:nth es i=Z e):fN e<=nG es:=by
 induction es generalizing i with
 |nil=>cases h
 |cons x es a=>
  simp only[nG];cases i with
  |zero=>cases h;omega
  |succ i=>have:=a (i:=i) h;omega
def fuA:AV:=.int (-9223372036854775808) 9223372036854775807
def tt:AV:=.BW (Z I)
def ff:AV:=.BW (Z J)
def bU:AV:=.BW O
def iA(op:BinOp)(a b c d:Int):u AV:=match op with
 | .add=>Z (if -9223372036854775808<=a+c/\b+d<=9223372036854775807 then .int (a+c) (b+d) else fuA)
 | .sub=>Z (if -9223372036854775808<=a - d/\b - c<=9223372036854775807 then .int (a - d) (b - c) else fuA)
 | .mul=>Z fuA
 | .lss=>Z (if b < c then tt else if d<=a then ff else bU)
 | .leq=>Z (if b<=c then tt else if d < a then ff else bU)
 | .gtr=>Z (if d < a then tt else if b<=c then ff else bU)
 | .geq=>Z (if d<=a then tt else if b < c then ff else bU)
 | .eql=>Z (if a=b/\c=d/\a=c then tt else if b < c\/d < a then ff else bU)
 | .neq=>Z (if a=b/\c=d/\a=c then ff else if b < c\/d < a then tt else bU)
 | .rem=>if 0<=a/\1<=c then Z (.int 0 (d - 1)) else O
 | .quo=>if 0<=a/\1<=c then Z (.int 0 b) else O
 | .and=>if 0<=c then Z (.int 0 d) else Z fuA
 | .xor=>Z fuA
 |_=>O
theorem pI{o:u Bool}{b:Bool}(h:∀c,o=Z c->b=c):eU (.BW o) (.bool b):=by simp only[eU];exact⟨b,rfl,h⟩
theorem Vj{b:Bool}(h:b=I):eU tt (.bool b):=pI λc a=>by cases a;exact h
theorem xq{b:Bool}(h:b=J):eU ff (.bool b):=pI λc a=>by cases a;exact h
theorem Vi{b:Bool}:eU bU (.bool b):=pI λc a=>by cases a
theorem j6{a b n:Int}(h:a<=n/\n<=b)(c:-9223372036854775808<=n/\n<=9223372036854775807):eU (.int a b) (.int .i64 n):=by simp only[eU];exact⟨n,rfl,h.1,h.2,c.1,c.2⟩
theorem Ap(a:Int):eU fuA (.int .i64 (IntKind.i64.wrap a)):=by
 have:=sW (n:=IntKind.i64.wrap a) (wrap_wrap _ _);exact j6 this this
theorem Ub{x y:Int}(d:0<=y)(c:y<=9223372036854775807):((dK 64 x &&& dK 64 y).toNat:Int)<=y:=by
 have a:(dK 64 y).toNat=y.toNat:=by rw[BitVec.toNat_ofInt];omega
 have b:(dK 64 x &&& dK 64 y).toNat<=y.toNat:=by
  rw[BitVec.toNat_and,a];exact Nat.and_le_right
 omega
theorem ahk {op : BinOp} {a b c d : Int} {r : AV} (h : iA op a b c d = Z r) {x y : Int} (k : a <= x /\ x <= b /\ -9223372036854775808 <= x /\ x <= 9223372036854775807) (j : c <= y /\ y <= d /\ -9223372036854775808 <= y /\ y <= 9223372036854775807) : ∃ f, Re op .i64 x y = Z f /\ eU r f := by
  obtain ⟨p, o, n, m⟩ := k
  obtain ⟨y1, y2, y3, y4⟩ := j
  cases op <;> simp only [iA, aa] at h
  all_goals try cases h
  · refine ⟨_, rfl, ?_⟩
    split
    · rename_i g
      have e : IntKind.i64.wrap (x + y) = x + y := wrap_i64 (by omega)
      rw [e]
      exact j6 (by omega) (by omega)
    · exact Ap _
  · refine ⟨_, rfl, ?_⟩
    split
    · rename_i g
      have e : IntKind.i64.wrap (x - y) = x - y := wrap_i64 (by omega)
      rw [e]
      exact j6 (by omega) (by omega)
    · exact Ap _
  · exact ⟨_, rfl, Ap _⟩
  all_goals first
    | exact ⟨_, rfl, Ap _⟩
    | (refine ⟨_, rfl, ?_⟩
       split
       · first | exact Vj (by simp only [decide_eq_true_eq, bY, decide_eq_false_iff_not]; omega) | exact xq (by simp only [decide_eq_false_iff_not, Bool.not_eq_false', decide_eq_true_eq]; omega)
       · split
         · first | exact xq (by simp only [decide_eq_false_iff_not, Bool.not_eq_false', decide_eq_true_eq]; omega) | exact Vj (by simp only [decide_eq_true_eq, bY, decide_eq_false_iff_not]; omega)
         · exact Vi)
    | (split at h
       · rename_i g
         cases h
         have i : (IntKind.i64 = IntKind.i64 /\ 0 <= x /\ 1 <= y) := ⟨rfl, by omega, by omega⟩
         have s : 0 <= x % y /\ x % y < y := ⟨wH _ (by omega), rB _ (by omega)⟩
         have q : 0 <= x / y /\ x / y <= x := ⟨Int.ediv_nonneg i.2.1 (by omega), oT _ i.2.1⟩
         exact ⟨_, if_pos i, j6 (by omega) (by omega)⟩
       · cases h)
    | (split at h
       · rename_i g
         cases h
         have t := Ub (x := x) (y := y) (by omega) (by omega)
         have l : IntKind.i64.wrap (dK 64 x &&& dK 64 y).toNat = (dK 64 x &&& dK 64 y).toNat := wrap_i64 (by omega)
         refine ⟨_, rfl, ?_⟩
         show eU _ (.int .i64 (IntKind.i64.wrap (dK 64 x &&& dK 64 y).toNat))
         rw [l]
         exact j6 (by omega) (by omega)
       · cases h
         exact ⟨_, rfl, Ap _⟩)
def sA(op:BinOp)(n m:Nat):u AV:=match op with
 | .add=>if n+m<=134217728 then Z (.str (n+m)) else O
 | .eql=>Z bU
 | .neq=>Z bU
 | .lss=>Z bU
 | .leq=>Z bU
 | .gtr=>Z bU
 | .geq=>Z bU
 |_=>O
theorem ajF {op : BinOp} {n m : Nat} {r : AV} (h : sA op n m = Z r) {x y : z} (c : x.size <= n) (b : y.size <= m) : ∃ a, Rf op x y = Z a /\ eU r a := by
  cases op <;> simp only [sA, aa] at h
  all_goals try cases h
  all_goals first
    | exact ⟨_, rfl, Vi⟩
    | (split at h
       · rename_i d
         cases h
         refine ⟨_, if_pos (by simp only [maxLen]; omega), ?_⟩
         simp only [eU]
         exact ⟨_, rfl, by rw [uq]; omega⟩
       · cases h)
def chA(k:Nat):Nat->M AV->u (M (M AV))
 |0,[]=>Z []
 |0,_=>O
 |m+1,xs=>if k<=xs.length then (chA k m (xs.drop k)).map (xs.take k::·) else O
def Zm(k:Nat)(a:Bool)(b:M (M AV)):Nat->Nat->u Nat
 |0,_=>O
 |m+1,t=>if fj (kw t) k=I/\Bt t=a/\b.all (FG (lay t))=I then Z t else Zm k a b m (t+1)
theorem Pn{k:Nat}{b:Bool}{c:M (M AV)}:∀{m t r:Nat},Zm k b c m t=Z r->kw r=k/\Bt r=b/\c.all (FG (lay r))=I
 |0,_,_,h=>by cases h
 |m+1,t,r,h=>by
  unfold Zm at h
  split at h
  ·rename_i a;cases h;exact⟨gl a.1,a.2⟩
  ·exact Pn h
def GK:M (M AV)->M (M D)->Prop
 |[],[]=>True
 |a::b,d::c=>cd a d/\GK b c
 |_,_=>False
theorem Aq:∀(n:Nat) {b:M AV} {c:M D},cd b c->cd (b.take n) (c.take n)/\cd (b.drop n) (c.drop n)
 |0,b,c,h=>⟨by simp[cd],h⟩
 |n+1,[],[],h=>⟨by simp[cd],by simp[cd]⟩
 |n+1,a::b,d::c,h=>by
  simp only[cd]at h;obtain⟨f,e⟩:=Aq n h.2;simp only[fE,zG,cd];exact⟨⟨h.1,f⟩,e⟩
 |n+1,[],_::_,h=>by simp only[cd]at h
 |n+1,_::_,[],h=>by simp only[cd]at h
theorem Ur{k:Nat}:∀{m:Nat} {a:M AV} {e:M D} {b:M (M AV)},chA k m a=Z b->cd a e->∃es,chunk k m e=Z es/\GK b es/\es.length=m/\b.length=m
 |0,[],[],b,h,_=>by cases h;exact⟨[],rfl,trivial,rfl,rfl⟩
 |0,[],_::_,_,_,d=>by simp only[cd]at d
 |0,_::_,_,_,h,_=>by cases h
 |m+1,a,e,b,h,d=>by
  unfold chA at h
  split at h
  ·rename_i f;obtain⟨c,g,rfl⟩:=ak.1 h;obtain⟨g1,g2⟩:=Aq k d;obtain⟨es,n,l,j,i⟩:=Ur g g2;refine⟨e.take k::es,?_,⟨g1,l⟩,by simp[j],by simp[i]⟩;unfold chunk;rw[if_pos (by rw[<- pJ d];exact f),n];rfl
  ·cases h
theorem Lb{t:Nat}:∀{b:M (M AV)} {es:M (M D)},GK b es->b.all (FG (lay t))=I->hO maxLen t es/\nG es<=(b.map zy).sum
 |[],[],_,_=>by simp[hO,nG]
 |a::b,e::es,h,c=>by
  simp only[GK]at h;simp only[bJ,af]at c;obtain⟨f,i⟩:=Jg c.1 h.1;obtain⟨d,g⟩:=Lb h.2 c.2;simp only[hO,nG,aW,List.sum_cons];exact⟨⟨f,d⟩,by omega⟩
 |[],_::_,h,_=>by simp only[GK]at h
 |_::_,[],h,_=>by simp only[GK]at h
theorem A3:∀{d:M Ty} {c:M D},gX maxLen d c->d.all Ty.plain=I->c.all D.plain=I
 |[],c,h,_=>by rw[h.jF];rfl
 |t::d,c,h,e=>by
  obtain⟨x,i,rfl,a,g⟩:=h.cons_inv;rw[bJ,af]at e;have f:D.plain x=I:=by
   cases t with
   |int=>obtain⟨m,rfl,_⟩:=a.lU;rfl
   |bool=>obtain⟨b,rfl⟩:=a.na;rfl
   |str=>obtain⟨s,rfl,_⟩:=a.j9;rfl
   |byte=>obtain⟨s,rfl,_⟩:=a.rI;rfl
   |list t=>exact absurd e.1 (by simp[Ty.plain])
  rw[bJ,f,A3 g e.2];rfl
theorem LR{t:Nat}(a:Bt t=I):∀{es:M (M D)},hO maxLen t es->es.all cD=I
 |[],_=>rfl
 |e::es,h=>by
  simp only[hO]at h;rw[bJ,LR a h.2,ed];exact A3 h.1 a
def plA:AV->Bool
 | .int _ _=>I
 | .u8=>I
 | .BW _=>I
 | .str _=>I
 |_=>J
def liA:AV->Bool
 | .nil _ _=>I
 | .lst _ _ _=>I
 |_=>J
theorem N5:∀{e:M AV} {f:M D},e.all plA=I->cd e f->cD f=I
 |[],[],_,_=>rfl
 |a::e,d::f,h,c=>by
  simp only[bJ,af]at h;simp only[cd]at c;have g:=N5 h.2 c.2;have i:D.plain d=I:=by
   have c:=c.1;have h:=h.1;cases a<;>simp only[plA]at h<;>try cases h
   all_goals simp only[eU]at c
   ·obtain⟨n,rfl,_⟩:=c;rfl
   ·obtain⟨n,rfl,_⟩:=c;rfl
   ·obtain⟨b,rfl,_⟩:=c;rfl
   ·obtain⟨b,rfl,_⟩:=c;rfl
  unfold cD at g ⊢;rw[bJ,i,g];rfl
 |[],_::_,_,c=>by simp only[cd]at c
 |_::_,[],_,c=>by simp only[cd]at c
theorem Wj:∀{c:M AV} {e:M D},c.any liA=I->cd c e->cD e=J
 |[],_,h,_=>by simp at h
 |a::c,d::e,h,b=>by
  simp only[lH,dr]at h;simp only[cd]at b;unfold cD;rw[bJ];rcases h with h|h
  ·have f:D.plain d=J:=by
    have b:=b.1;cases a<;>simp only[liA]at h<;>try cases h
    all_goals simp only[eU]at b
    ·subst b;rfl
    ·obtain⟨es,rfl,_⟩:=b;rfl
   rw[f];rfl
  ·have:=Wj h b.2;unfold cD at this;rw[this,fO]
 |_::_,[],_,b=>by simp only[cd]at b
section
def acy(k a:Nat):AV->AV->u AV
 | .nil d b,.nil h i=>if d=k/\h=k/\b=i then Z (.nil k b) else O
 | .nil d b,.lst t c n=>if d=k/\kw t=k/\b=Bt t/\n * a<=140737488355328 then Z (.lst t c n) else O
 | .lst t c n,.nil d b=>if d=k/\kw t=k/\b=Bt t/\n * a<=140737488355328 then Z (.lst t c n) else O
 | .lst t c n,.lst g f e=>if t=g/\kw t=k/\(n+e) * a<=140737488355328/\n+e<=134217728 then Z (.lst t (c+f) (n+e)) else O
 |_,_=>O
def adV(k:Nat)(c:Bool)(b:M AV):u AV:=match b with
 |[]=>Z (.nil k c)
 |x::b=>if (x::b).length % k=0 then (match chA k ((x::b).length / k) (x::b) with
  |some a=>(match Zm k c a 32 0 with
   |some t=>if a.length+(a.map zy).sum<=134217728 then Z (.lst t a.length (a.length+(a.map zy).sum)) else O
   |none=>O)
  |none=>O) else O
def elA(t n:Nat):AV:=.Pa ((lay t).map (Ko n))
def ae_(o t d n:Nat)(a b:Int)(c:M AV):u AV:=if 0<=a/\b < d/\FG (((lay t).drop o).take c.length) c=I/\o+c.length<=kw t/\n+zy c<=134217728/\(Bt t=I->c.all plA=I) then Z (.lst t d (n+zy c)) else O
def evA:PO->M AV->u AV
 | .OX o,[.Pa cs]=>nth cs o
 | .has n,[.Pa cs]=>if n<=cs.length then Z ff else O
 | .bin op,[.int a b,.int c d]=>iA op a b c d
 | .bin .shr,[.int a b,.u6 n]=>if 0<=n/\n<=63 then Z (.int (mn a 0) (mxI b 0)) else O
 | .bin op,[.str n,.str m]=>sA op n m
 | .not,[.BW o]=>Z (.BW (o.map (!·)))
 | .neg,[.int a b]=>Z (if -9223372036854775808 < a then .int (-b) (-a) else fuA)
 | .conv .i64,[.u8]=>Z (.int 0 255)
 | .conv .i64,[.int a b]=>Z (.int a b)
 | .len,[.lst t e n]=>Z (.int e n)
 | .len,[.nil _ _]=>Z (.int 0 0)
 | .sln,[.str n]=>if n<=134217728 then Z (.int 0 n) else O
 | .el k,[.lst t e n,.int a b]=>if 0<=a/\b < e/\kw t=k then Z (elA t n) else O
 | .FA,[.lst t e n,.int a b]=>if 0<=a/\b < e then Z ff else O
 | .Gv k o m deep,[.lst t e n,.int a b]=>if 0<=a/\b < e/\kw t=k/\o+m<=k/\(deep=I->(((lay t).drop o).take m).all Ty.plain=I) then Z (elA t n) else O
 | .ite,[.BW o,x,y]=>Z (match o with
  |some I=>x
  |some J=>y
  |none=>jq x y)
 | .v8 k J,[.lst t e n,.int a b]=>if kw t=k/\0<=a/\b<=e then Z (.lst t (e - b.toNat) n) else O
 | .v8 k I,[.lst t e n,.int a b,.int c d]=>if kw t=k/\0<=a/\b<=c/\d<=e then Z (.lst t (c - b).toNat n) else O
 | .cut J,[.lst t e n,.int a b]=>if 0<=a/\b<=e then Z (.lst t (e - b.toNat) n) else O
 | .cut I,[.lst t e n,.int a b,.int c d]=>if 0<=a/\b<=c/\d<=e then Z (.lst t (c - b).toNat n) else O
 | .mW k f,xs=>adV k f xs
 | .app k g,[x,y]=>acy k g x y
 | .set o,.lst t e n::.int a b::xs=>ae_ o t e n a b xs
 | .lst k f,[.lst t e n]=>if kw t=k/\Bt t=f then Z (.lst t e n) else O
 | .lst k f,[.nil i h]=>if i=k/\h=f then Z (.nil k f) else O
 | .tru,[.BW o]=>Z (.BW o)
 | .pl,xs=>if xs.all plA=I then Z ff else O
 | .LJ,xs=>if xs.any liA=I then Z ff else O
 |_,_=>O
theorem g1{a:AV}{ds:M D}(h:cd [a] ds):∃d,ds=[d]/\eU a d:=by
 match ds,h with
 |[d],h=>simp only[cd]at h;exact⟨d,rfl,h.1⟩
 |[],h=>simp only[cd]at h
 |_::_::_,h=>simp only[cd]at h;exact h.2.elim
theorem g2{a b:AV}{ds:M D}(h:cd [a,b] ds):∃d e,ds=[d,e]/\eU a d/\eU b e:=by
 match ds,h with
 |[],h=>simp only[cd]at h
 |d::ds,h=>
  simp only[cd]at h;obtain⟨e,rfl,c⟩:=g1 (ds:=ds) (by exact h.2);exact⟨d,e,rfl,h.1,c⟩
theorem g3{a b c:AV}{ds:M D}(h:cd [a,b,c] ds):∃d e f,ds=[d,e,f]/\eU a d/\eU b e/\eU c f:=by
 match ds,h with
 |[],h=>simp only[cd]at h
 |d::ds,h=>
  simp only[cd]at h;obtain⟨e,f,rfl,g⟩:=g2 (ds:=ds) (by exact h.2);exact⟨d,e,f,rfl,h.1,g⟩
theorem j7{t a n:Nat}{es:M (M D)}(e:hO maxLen t es)(d:a<=es.length)(c:es.length+nG es<=n)(b:n<=134217728):eU (.lst t a n) (.list (kw t) (Bt t) es):=by
 simp only[eU];exact⟨es,rfl,e,d,c,b⟩
theorem fw{t a n:Nat}{d:D}(h:eU (.lst t a n) d):∃es,d=.list (kw t) (Bt t) es/\hO maxLen t es/\a<=es.length/\es.length+nG es<=n/\n<=134217728:=by simpa only [eU] using h
theorem eV{a b:Int}{d:D}(h:eU (.int a b) d):∃n,d=.int .i64 n/\a<=n/\n<=b/\-9223372036854775808<=n/\n<=9223372036854775807:=by simpa only [eU] using h
theorem ow{t:Nat}:∀(n:Nat) {es:M (M D)},hO maxLen t es->hO maxLen t (es.take n)/\hO maxLen t (es.drop n)/\nG (es.take n)+nG (es.drop n)=nG es
 |0,es,h=>⟨by simp[hO],h,by simp[nG]⟩
 |n+1,[],h=>⟨by simp[hO],by simp[hO],by simp[nG]⟩
 |n+1,e::es,h=>by
  simp only[hO]at h;obtain⟨b,a,c⟩:=ow n h.2;simp only[fE,zG,hO,nG];exact⟨⟨h.1,b⟩,a,by omega⟩
theorem Qj{t:Nat}:∀{a b:M (M D)},hO maxLen t a->hO maxLen t b->hO maxLen t (a++b)
 |[],_,_,h=>h
 |x::a,b,c,d=>by
  simp only[aq,hO]at c ⊢;exact⟨c.1,Qj c.2 d⟩
theorem Jb{es:M (M D)}{t b n:Nat}{i:Int}(c:hO maxLen t es)(h:b<=es.length)(f:es.length+nG es<=n)(g:n<=134217728)(l:0<=i)(k:i < b):∃e,nth es i.toNat=Z e/\gX maxLen (lay t) e/\fN e<=n:=by
 have d:i.toNat < es.length:=by omega
 have a:=dV d;have j:=XP a;exact⟨_,a,c.WA a,by omega⟩
theorem UL{t n:Nat}{e:M D}(c:n<=134217728)(b:gX maxLen (lay t) e)(a:fN e<=n):eU (elA t n) (.list 0 J [e]):=by
 simp only[elA,eU];exact⟨e,rfl,Kp c b a⟩
theorem acA{k b:Nat}{x y r:AV}(h:acy k b x y=Z r){d e:D}(hd:eU x d)(f:eU y e):∃a,aK (.app k b) [d,e]=Z a/\eU r a:=by
 unfold acy at h
 split at h
 ·split at h
  ·rename_i c;cases h;simp only[eU]at hd f;obtain⟨rfl,rfl,rfl⟩:=c;subst hd f;refine⟨_,xO _ b _ [] [] (by simp[room,maxLen]),?_⟩;simp only[eU,aQ]
  ·cases h
 ·split at h
  ·rename_i c;cases h;simp only[eU]at hd;obtain⟨es,rfl,a1,a2,a3,a4⟩:=fw f;obtain⟨j,g,m,l⟩:=c;subst j m;subst hd;have i:es.length * b<=140737488355328:=aL (ee _ (by omega)) l;rw[g];refine⟨_,xO _ b _ [] es (by simp only[aJ,bD,room,maxLen];exact⟨i,by omega⟩),?_⟩;rw[ay,<- g];exact j7 a1 a2 a3 a4
  ·cases h
 ·split at h
  ·rename_i c;cases h;simp only[eU]at f;obtain⟨es,rfl,a1,a2,a3,a4⟩:=fw hd;obtain⟨j,g,m,l⟩:=c;subst j m;subst f;have i:es.length * b<=140737488355328:=aL (ee _ (by omega)) l;rw[g];refine⟨_,xO _ b _ es [] (by simp only[aJ,eu,room,maxLen];exact⟨i,by omega⟩),?_⟩;rw[aQ,<- g];exact j7 a1 a2 a3 a4
  ·cases h
 ·split at h
  ·rename_i c;cases h;obtain⟨es,rfl,a1,a2,a3,a4⟩:=fw hd;obtain⟨n,rfl,j,g,m,l⟩:=fw f;obtain⟨rfl,o,q,p⟩:=c;have i:(es.length+n.length) * b<=140737488355328:=aL (ee _ (by omega)) q;rw[o];refine⟨_,xO k b _ es n (by simp only[room,maxLen];exact⟨i,by omega⟩),?_⟩;rw[<- o];refine j7 (Qj a1 j) ?_ ?_ p
   ·rw[aR];omega
   ·rw[aR,tI];omega
  ·cases h
 ·cases h
theorem adW{k:Nat}{c:Bool}{e:M AV}{r:AV}(h:adV k c e=Z r){d:M D}(b:cd e d):∃a,aK (.mW k c) d=Z a/\eU r a:=by
 unfold adV at h
 split at h
 ·cases h
  match d,b with
  |[],_=>exact⟨_,tz k c,by simp only[eU]⟩
  |_::_,b=>simp only[cd]at b
 ·split at h
  ·rename_i f
   split at h
   ·rename_i x j
    split at h
    ·rename_i t l
     split at h
     ·rename_i m;cases h;obtain⟨es,i,w,v,s⟩:=Ur j b;obtain⟨q,g,p⟩:=Pn l;obtain⟨g1,g2⟩:=Lb w p;have n:=pJ b;rw[n]at f i v s;refine⟨.list k c es,?_,?_⟩
      ·simp only[aK,f,if_true,i];rw[if_pos (λo=>LR (t:=t) (by rw[g,o]) g1)]
      ·rw[<- q,<- g];exact j7 g1 (by omega) (by omega) m
     ·cases h
    ·cases h
   ·cases h
  ·cases h
theorem EV:∀(a b:M D),fN (a++b)=fN a+fN b
 |[],b=>by simp[fN]
 |x::a,b=>by rw[aq,fN,fN,EV a b];omega
theorem NX{B:Nat}:∀{c a:M Ty} {b es:M D},gX B c b->gX B a es->gX B (c++a) (b++es)
 |[],a,b,es,h,d=>by rw[h.jF];exact d
 |t::c,a,b,es,h,d=>by
  obtain⟨x,g,rfl,f,e⟩:=h.cons_inv;simp only[aq,gX];exact⟨f,NX e d⟩
theorem afg{b:M Ty}{o:Nat}{e a:M D}{c:M AV}(f:gX maxLen b e)(g:FG ((b.drop o).take c.length) c=I)(d:cd c a):gX maxLen b (mi e o a)/\fN (mi e o a)<=fN e+zy c:=by
 have h:=pJ d;obtain⟨i,p⟩:=Jg g d;have l:b.take o++(b.drop o).take c.length++b.drop (o+a.length)=b:=by
  rw[<- h,<- kO,bE,bh,bh]
 have k:e.take o++e.drop o=e:=bh _ _;have j:(e.drop o).take a.length++e.drop (o+a.length)=e.drop o:=by rw[<- kO,bh]
 constructor
 ·rw[<- l];unfold mi;exact NX (NX (gX.take o _ _ f) i) (gX.drop _ _ _ f)
 ·unfold mi;have n:fN e=fN (e.take o)+fN (e.drop o):=by rw[<- EV,k]
  have m:fN (e.drop o)=fN ((e.drop o).take a.length)+fN (e.drop (o+a.length)):=by rw[<- EV,j]
  rw[EV,EV];omega
theorem QR{t:Nat}{c:M D}{a:Nat}(f:gX maxLen (lay t) c):∀{es:M (M D)} {i:Nat} {e:M D},hO maxLen t es->nth es i=Z e->fN c<=fN e+a->hO maxLen t (es.set i c)/\nG (es.set i c)<=nG es+a
 |x::es,0,e,h,b,d=>by
  cases b;simp only[hO]at h;simp only[List.set_cons_zero,hO,nG];exact⟨⟨f,h.2⟩,by omega⟩
 |x::es,i+1,e,h,b,d=>by
  simp only[hO]at h;obtain⟨g,j⟩:=QR f (es:=es) (i:=i) h.2 b d;simp only[List.set_cons_succ,hO,nG];exact⟨⟨h.1,g⟩,by omega⟩
 |[],_,_,_,b,_=>by cases b
theorem afa{o t k n:Nat}{a b:Int}{g:M AV}{r:AV}(h:ae_ o t k n a b g=Z r){es:M (M D)}{i:Int}{f:M D}(m:hO maxLen t es)(l:k<=es.length)(A:es.length+nG es<=n)(L:a<=i/\i<=b)(d:cd g f)(w:n<=134217728) :
  ∃c,aK (.set o) (.list (kw t) (Bt t) es::.int .i64 i::f)=Z c/\eU r c:=by
 unfold ae_ at h
 split at h
 ·rename_i y;cases h;obtain⟨c1,P,F,N,C,B⟩:=y;obtain⟨e,j,p,G⟩:=Jb m l A w (i:=i) (by omega) (by omega);obtain⟨v,s⟩:=afg p F d;obtain⟨q,H⟩:=QR v m j s;have K:=pJ d;refine⟨.list (kw t) (Bt t) (es.set i.toNat (mi e o f)),?_,j7 q (by rw[qa];exact l) (by rw[qa];omega) C⟩;simp only[aK,j];rw[if_pos ⟨by omega,λx=>N5 (B x) d⟩]
 ·cases h
theorem O9{n q lo hi:Int}(b:1<=q)(g:lo<=n)(f:lo<=0)(e:n<=hi)(d:0<=hi):lo<=n / q/\n / q<=hi:=by
 constructor
 ·rw[Int.le_ediv_iff_mul_le (by omega)];have:=Int.mul_le_mul_of_nonpos_left f b;omega
 ·have:=Int.ediv_le_ediv (c:=q) (by omega) e;have:=oT (a:=hi) q d;omega
theorem acU{o:PO}{F:M AV}{r:AV}(h:evA o F=Z r){G:M D}(p:cd F G):∃d,aK o G=Z d/\eU r d:=by
 unfold evA at h
 split at h
 ·
  obtain⟨d,rfl,g⟩:=g1 p;simp only[eU]at g;obtain⟨es,rfl,l⟩:=g;exact rO l h
 ·
  obtain⟨d,rfl,g⟩:=g1 p;simp only[eU]at g;obtain⟨es,rfl,l⟩:=g
  split at h
  ·rename_i v;cases h;exact⟨_,by rw[xQ,if_pos (by rw[<- pJ l];exact v)],xq rfl⟩
  ·cases h
 ·
  obtain⟨d,e,rfl,g,l⟩:=g2 p;obtain⟨n,rfl,w⟩:=eV g;obtain⟨m,rfl,Q⟩:=eV l;rw[sf];exact ahk h w Q
 ·
  obtain⟨d,e,rfl,g,l⟩:=g2 p;obtain⟨n,rfl,w⟩:=eV g;simp only[eU]at l;subst l
  split at h
  ·rename_i v;cases h;rename_i a b m;refine⟨.int .i64 (n / 2 ^ m.toNat),?_,?_⟩
   ·simp only[aK,Kf,Xz];rw[if_neg (by decide)];simp only[v,and_self,if_true];rfl
   ·have C:(1:Int)<=2 ^ m.toNat:=Int.pow_pos (by decide);generalize (2:Int) ^ m.toNat=q at C;have Q:=O9 (n:=n) (lo:=mn a 0) (hi:=mxI b 0) C (by unfold mn;split<;>omega) (by unfold mn;split<;>omega) (by unfold mxI;split<;>omega) (by unfold mxI;split<;>omega);exact j6 Q (O9 C (by omega) (by omega) (by omega) (by omega))
  ·cases h
 ·
  obtain⟨d,e,rfl,g,l⟩:=g2 p;simp only[eU]at g l;obtain⟨n,rfl,g⟩:=g;obtain⟨m,rfl,l⟩:=l;rw[Qt];exact ajF h g l
 ·
  obtain⟨d,rfl,g⟩:=g1 p;simp only[eU]at g;obtain⟨b,rfl,g⟩:=g;cases h;refine⟨_,WV b,pI λc v=>?_⟩;obtain⟨x,T,rfl⟩:=ak.1 v;rw[g x T]
 ·
  obtain⟨d,rfl,g⟩:=g1 p;obtain⟨n,rfl,g⟩:=eV g;cases h;refine⟨_,WU _ _,?_⟩;split
  ·rw[wrap_i64 (by omega)];exact j6 (by omega) (by omega)
  ·exact Ap _
 ·
  obtain⟨d,rfl,g⟩:=g1 p;simp only[eU]at g;obtain⟨n,rfl,g⟩:=g;cases h;refine⟨_,Jo _ _ _,?_⟩;rw[wrap_i64 (by omega)];exact j6 (by omega) (by omega)
 ·obtain⟨d,rfl,g⟩:=g1 p;obtain⟨n,rfl,g⟩:=eV g;cases h;refine⟨_,Jo _ _ _,?_⟩;rw[wrap_i64 (by omega)];exact j6 (by omega) (by omega)
 ·
  obtain⟨d,rfl,g⟩:=g1 p;obtain⟨es,rfl,a1,a2,a3,a4⟩:=fw g;cases h;exact⟨_,N8 _ _ _,j6 (by omega) (by omega)⟩
 ·obtain⟨d,rfl,g⟩:=g1 p;simp only[eU]at g;subst g;cases h;exact⟨_,N8 _ _ _,j6 (by simp) (by simp)⟩
 ·
  obtain⟨d,rfl,g⟩:=g1 p;simp only[eU]at g;obtain⟨s,rfl,g⟩:=g
  split at h
  ·cases h;exact⟨_,WY _,j6 (by omega) (by omega)⟩
  ·cases h
 ·
  obtain⟨d,e,rfl,g,l⟩:=g2 p;obtain⟨es,rfl,a1,a2,a3,a4⟩:=fw g;obtain⟨i,rfl,l⟩:=eV l
  split at h
  ·rename_i v;cases h;obtain⟨e,K,y,H⟩:=Jb a1 a2 a3 a4 (i:=i) (by omega) (by omega);rw[v.2.2];exact⟨_,by rw[Qw _ _ _ _ (by omega),K];rfl,UL a4 y H⟩
  ·cases h
 ·
  obtain⟨d,e,rfl,g,l⟩:=g2 p;obtain⟨es,rfl,a1,a2,a3,a4⟩:=fw g;obtain⟨i,rfl,l⟩:=eV l
  split at h
  ·rename_i v;cases h;refine⟨.bool J,?_,xq rfl⟩;simp only[aK];rw[if_pos ⟨by omega,by omega⟩]
  ·cases h
 ·
  obtain⟨d,e,rfl,g,l⟩:=g2 p;obtain⟨es,rfl,a1,a2,a3,a4⟩:=fw g;obtain⟨i,rfl,U,i2,i3,i4⟩:=eV l
  split at h
  ·rename_i k o m deep t lo n a b v;cases h;obtain⟨e,K,y,H⟩:=Jb a1 a2 a3 a4 (i:=i) (by omega) (by omega);refine⟨.list 0 J [e],?_,UL a4 y H⟩;simp only[aK,K];have P:e.length=kw t:=y.length;have C:(cD ((e.drop o).take m) ||!deep)=I:=by
    cases hd:deep
    ·simp
    ·simp only[eP,ew];exact A3 (gX.sub o m y) (v.2.2.2.2 hd)
   rw[if_pos ⟨v.2.2.1,v.2.2.2.1,by rw[P,v.2.2.1];exact v.2.2.2.1,C⟩]
  ·cases h
 ·
  obtain⟨d,e,f,rfl,g,l,w⟩:=g3 p;simp only[eU]at g;obtain⟨b,rfl,g⟩:=g;cases h;refine⟨_,ad8 b e f,?_⟩;split
  ·rw[g _ rfl];exact l
  ·rw[g _ rfl];exact w
  ·cases b
   ·exact ahq w
   ·exact ahp l
 ·
  obtain⟨d,e,rfl,g,l⟩:=g2 p;obtain⟨es,rfl,a1,a2,a3,a4⟩:=fw g;obtain⟨i,rfl,l⟩:=eV l
  split at h
  ·rename_i v;cases h;obtain⟨B,A,N⟩:=ow i.toNat a1;refine⟨.list (kw _) (Bt _) (es.drop i.toNat),?_,j7 A (by rw[bT];omega) (by rw[bT];omega) a4⟩;simp only[aK,dI,if_pos (show 0<=i by omega)];rw[if_pos ⟨v.1,by omega⟩]
  ·cases h
 ·obtain⟨d,e,f,rfl,g,l,w⟩:=g3 p;obtain⟨es,rfl,a1,a2,a3,a4⟩:=fw g;obtain⟨i,rfl,l⟩:=eV l;obtain⟨j,rfl,w⟩:=eV w
  split at h
  ·rename_i v;cases h;obtain⟨B,A,N⟩:=ow j.toNat a1;obtain⟨S,L,R⟩:=ow i.toNat B;refine⟨.list (kw _) (Bt _) ((es.take j.toNat).drop i.toNat),?_,j7 L (by rw[bT,bj];omega) (by rw[bT,bj];omega) a4⟩;simp only[aK,dI,if_pos (show 0<=i by omega),if_pos (show 0<=j by omega)];rw[if_pos ⟨v.1,by omega,by omega⟩]
  ·cases h
 ·
  obtain⟨d,e,rfl,g,l⟩:=g2 p;obtain⟨es,rfl,a1,a2,a3,a4⟩:=fw g;obtain⟨i,rfl,l⟩:=eV l
  split at h
  ·rename_i v;cases h;obtain⟨B,A,N⟩:=ow i.toNat a1;refine⟨.list (kw _) (Bt _) (es.drop i.toNat),?_,j7 A (by rw[bT];omega) (by rw[bT];omega) a4⟩;simp only[aK,dI,if_pos (show 0<=i by omega)];rw[if_pos (by omega)]
  ·cases h
 ·obtain⟨d,e,f,rfl,g,l,w⟩:=g3 p;obtain⟨es,rfl,a1,a2,a3,a4⟩:=fw g;obtain⟨i,rfl,l⟩:=eV l;obtain⟨j,rfl,w⟩:=eV w
  split at h
  ·rename_i v;cases h;obtain⟨B,A,N⟩:=ow j.toNat a1;obtain⟨S,L,R⟩:=ow i.toNat B;refine⟨.list (kw _) (Bt _) ((es.take j.toNat).drop i.toNat),?_,j7 L (by rw[bT,bj];omega) (by rw[bT,bj];omega) a4⟩;simp only[aK,dI,if_pos (show 0<=i by omega),if_pos (show 0<=j by omega)];rw[if_pos ⟨by omega,by omega⟩]
  ·cases h
 ·
  exact adW h p
 ·
  obtain⟨d,e,rfl,g,l⟩:=g2 p;exact acA h g l
 ·
  match G,p with
  |[],p=>simp only[cd]at p
  |[_],p=>simp only[cd]at p;exact p.2.elim
  |d::e::G,p=>
   simp only[cd]at p;obtain⟨es,rfl,a1,a2,a3,a4⟩:=fw p.1;obtain⟨i,rfl,l⟩:=eV p.2.1;exact afa h a1 a2 a3 ⟨l.1,l.2.1⟩ p.2.2 a4
 ·
  obtain⟨d,rfl,g⟩:=g1 p;obtain⟨es,rfl,a1,a2,a3,a4⟩:=fw g
  split at h
  ·rename_i v;cases h;refine⟨.list (kw _) (Bt _) es,?_,j7 a1 a2 a3 a4⟩;simp only[aK];rw[if_pos v,v.1,v.2]
  ·cases h
 ·obtain⟨d,rfl,g⟩:=g1 p;simp only[eU]at g;subst g
  split at h
  ·rename_i v;cases h;obtain⟨rfl,rfl⟩:=v;refine⟨_,?_,by simp only[eU];rfl⟩;simp only[aK,and_self,if_true]
  ·cases h
 ·
  obtain⟨d,rfl,g⟩:=g1 p;simp only[eU]at g;obtain⟨b,rfl,g⟩:=g;cases h;exact⟨_,rfl,pI g⟩
 ·
  split at h
  ·rename_i v;cases h;exact⟨_,aiH _ (N5 v p),xq rfl⟩
  ·cases h
 ·
  split at h
  ·rename_i v;cases h;exact⟨_,ad_ _ (Wj v p),xq rfl⟩
  ·cases h
 ·cases h
theorem Dj:∀(e:M D),cd (e.map .Fj) e
 |[]=>by simp only[cE,cd]
 |d::e=>by simp only[aW,cd,eU];exact⟨trivial,Dj e⟩
def V3:M (M D)->u (M AV)
 |[]=>O
 |e::es=>match es with
  |[]=>Z (e.map .Fj)
  |_::_=>match V3 es with
   |some a=>if (e.map AV.Fj).length=a.length then Z (jqs (e.map .Fj) a) else O
   |none=>O
theorem IA:∀{es:M (M D)} {a:M AV},V3 es=Z a->∀e∈es,cd a e
 |[],_,_,e,b=>by cases b
 |x::es,a,h,e,b=>by
  unfold V3 at h
  split at h
  ·cases h;rw[bI.1 b];exact Dj x
  ·rename_i y ys
   split at h
   ·rename_i f d
    split at h
    ·rename_i c;cases h;rcases aP.1 b with rfl|b
     ·exact V4 c (Dj _)
     ·exact V5 c (IA d e b)
    ·cases h
   ·cases h
def evS:PO->M AV->u AV
 | .el k,[.Fj (.list c _ es),i]=>match wk i with
  | .int a b=>if 0<=a/\b < es.length/\c=k then (V3 es).map .Pa else O
  |_=>O
 | .FA,[.Fj (.list _ _ es),i]=>match wk i with
  | .int a b=>if 0<=a/\b < es.length then Z ff else O
  |_=>O
 | .Gv k o n deep,[.Fj (.list c _ es),i]=>match wk i with
  | .int a b=>if 0<=a/\b < es.length/\c=k/\o+n<=k/\es.all (λe=>gV (o+n) e.length && (cD ((e.drop o).take n) ||!deep))=I then (V3 es).map .Pa else O
  |_=>O
 |_,_=>O
theorem acZ{o:PO}{k:M AV}{r:AV}(h:evS o k=Z r){t:M D}(p:cd k t):∃d,aK o t=Z d/\eU r d:=by
 unfold evS at h
 split at h
 ·obtain⟨d,e,rfl,b,j⟩:=g2 p;simp only[eU]at b;subst b;have a:=BT j
  split at h
  ·rename_i g;rw[g]at a;obtain⟨i,rfl,s⟩:=eV a
   split at h
   ·rename_i es _ _ _ _ f;obtain⟨v,n,rfl⟩:=ak.1 h;have l:i.toNat < es.length:=by omega
    have c:=dV l;refine⟨_,by rw[f.2.2,Qw _ _ _ _ (by omega),c];rfl,?_⟩;simp only[eU];exact⟨_,rfl,IA n _ (zd c)⟩
   ·cases h
  ·cases h
 ·obtain⟨d,e,rfl,b,j⟩:=g2 p;simp only[eU]at b;subst b;have a:=BT j
  split at h
  ·rename_i g;rw[g]at a;obtain⟨i,rfl,s⟩:=eV a
   split at h
   ·rename_i f;cases h;refine⟨.bool J,?_,xq rfl⟩;simp only[aK];rw[if_pos ⟨by omega,by omega⟩]
   ·cases h
  ·cases h
 ·obtain⟨d,e,rfl,b,j⟩:=g2 p;simp only[eU]at b;subst b;have a:=BT j
  split at h
  ·rename_i g;rw[g]at a;obtain⟨i,rfl,s⟩:=eV a
   split at h
   ·rename_i es _ _ _ _ f;obtain⟨v,n,rfl⟩:=ak.1 h;have l:i.toNat < es.length:=by omega
    have c:=dV l;have q:=bg.1 f.2.2.2.2 _ (zd c);rw[af]at q;have m:=ib q.1;refine⟨.list 0 J [es[i.toNat]'l],?_,?_⟩
    ·simp only[aK,c];rw[if_pos ⟨f.2.2.1,f.2.2.2.1,m,q.2⟩]
    ·simp only[eU];exact⟨_,rfl,IA n _ (zd c)⟩
   ·cases h
  ·cases h
 ·cases h
def evB(o:PO)(a:M AV):u AV:=match Kw a with
 |some b=>(match aK o b with
  |some d=>Z (.Fj d)
  |none=>O)
 |none=>match evS o a with
  |some r=>Z r
  |none=>evA o (YI a)
theorem acV{o:PO}{a:M AV}{r:AV}(h:evB o a=Z r){c:M D}(b:cd a c):∃d,aK o c=Z d/\eU r d:=by
 unfold evB at h
 split at h
 ·rename_i es f;rw[OZ f b]
  split at h
  ·rename_i d hd;cases h;exact⟨d,hd,by simp only[eU]⟩
  ·cases h
 ·split at h
  ·rename_i x e;cases h;exact acZ e b
  ·exact acU h (vw b)
end
section
def seA(a:M AV):SE->u AV
 | .v i=>nth a i
 | .k x=>Z (.Fj x.d)
 | .c i j=>match nth a i with
  |some (.Pa cs)=>nth cs j
  |some (.Fj (.list 0 J [cs]))=>(nth cs j).map .Fj
  |_=>O
def Oc(b:M AV):M SE->u (M AV)
 |[]=>Z []
 |e::es=>match seA b e with
  |some a=>(Oc b es).map (a::·)
  |none=>O
theorem Ob{c:M AV}{m:M D}(f:cd c m){e:SE}{a:AV}(h:seA c e=Z a):∃d,e.d m=Z d/\eU a d:=by
 unfold seA at h
 split at h
 ·exact rO f h
 ·cases h;exact⟨_,rfl,by simp only[eU]⟩
 ·split at h
  ·rename_i i j o g;obtain⟨d,l,b⟩:=rO f g;simp only[eU]at b;obtain⟨p,rfl,b⟩:=b;obtain⟨x,k,n⟩:=rO b h;refine⟨x,?_,n⟩;simp only[SE.d,l,TM,k]
  ·rename_i i j o g;obtain⟨d,l,b⟩:=rO f g;simp only[eU]at b;subst b;obtain⟨x,k,rfl⟩:=ak.1 h;refine⟨x,?_,by simp only[eU]⟩;simp only[SE.d,l,TM,k]
  ·cases h
theorem zq{c:M AV}{g:M D}(i:cd c g):∀{es:M SE} {b:M AV},Oc c es=Z b->∃f,iT g es=Z f/\cd b f
 |[],b,h=>by cases h;exact⟨[],rfl,by simp only[cd]⟩
 |e::es,b,h=>by
  unfold Oc at h
  split at h
  ·rename_i a j;obtain⟨l,k,rfl⟩:=ak.1 h;obtain⟨d,p,o⟩:=Ob i j;obtain⟨f,n,m⟩:=zq i k;refine⟨d::f,?_,by simp only[cd];exact⟨o,m⟩⟩;simp only[iT,p,n,aH]
  ·cases h
def GI:M AV->Gs->u (M (M AV×Bool))
 |env,[]=>Z [(env,I)]
 |env,(e,w)::gs=>match (seA env e).map wk with
  |some (.BW (Z b))=>if b=w then GI env gs else Z [(env,J)]
  |some (.BW O)=>(match e with
   | .v i=>(match GI (env.set i (.BW (Z w))) gs with
    |some l=>Z ((env.set i (.BW (Z (!w))),J)::l)
    |none=>O)
   |_=>O)
  |_=>O
theorem yB{o:M D}:∀{v:Gs} {a:M AV} {l:M (M AV×Bool)},GI a v=Z l->cd a o->∃p∈l,cd p.1 o/\iJ o v=Z p.2
 |[],a,l,h,f=>by cases h;exact⟨_,aU,f,rfl⟩
 |(e,w)::v,a,l,h,f=>by
  unfold GI at h
  split at h
  ·rename_i b g;obtain⟨a0,g,t⟩:=ak.1 g;obtain⟨d,m,x⟩:=Ob f g;have j:=BT x;rw[t]at j;simp only[eU]at j;obtain⟨c,rfl,B⟩:=j;have A:=B b rfl;subst A
   split at h
   ·rename_i k;obtain⟨p,s,r,q⟩:=yB h f;refine⟨p,s,r,?_⟩;simp only[iJ,m];rw[if_pos k,q]
   ·rename_i k;cases h;refine⟨_,aU,f,?_⟩;simp only[iJ,m];rw[if_neg k]
  ·rename_i g
   split at h
   ·rename_i i;obtain⟨a0,g,t⟩:=ak.1 g;obtain⟨d,m,x⟩:=Ob f g;have j:=BT x;rw[t]at j;simp only[eU]at j;obtain⟨c,rfl,_⟩:=j;have n:nth o i=Z (.bool c):=m
    split at h
    ·rename_i C y;cases h;by_cases k:c=w
     ·subst k;obtain⟨p,s,r,q⟩:=yB y (Dk f n (pI λ_ h=>by cases h;rfl));refine⟨p,bk _ s,r,?_⟩;simp only[iJ,m];rw[if_pos trivial,q]
     ·refine⟨_,aU,Dk f n (pI λ_ h=>by cases h;cases c<;>cases w<;>simp_all),?_⟩;simp only[iJ,m];rw[if_neg k]
    ·cases h
   ·cases h
  ·cases h
abbrev Out:=M (Nat×M AV)
def yk{c:Type}:M c->(c->u Out)->u Out
 |[],_=>Z []
 |x::xs,f=>match f x with
  |some a=>(match yk xs f with
   |some b=>Z (a++b)
   |none=>O)
  |none=>O
theorem pD{g:Type}{f:g->u Out}:∀{l:M g} {o:Out},yk l f=Z o->∀x∈l,∃a,f x=Z a/\∀p∈a,p∈o
 |[],_,_,x,d=>by cases d
 |y::l,o,h,x,d=>by
  unfold yk at h
  split at h
  ·rename_i a j
   split at h
   ·rename_i b i;cases h;rcases aP.1 d with rfl|d
    ·exact⟨a,j,λp e=>List.mem_append_left _ e⟩
    ·obtain⟨c,m,k⟩:=pD i x d;exact⟨c,m,λp e=>List.mem_append_right _ (k p e)⟩
   ·cases h
  ·cases h
def ZO(p:Nat×M AV):Out->Out
 |[]=>[p]
 |q::l=>if q.1=p.1/\q.2.length=p.2.length then (q.1,jqs q.2 p.2)::l else q::ZO p l
def G6:Out->Out
 |[]=>[]
 |p::l=>ZO p (G6 l)
def CL(o:Out)(j:Nat)(a:M D):Prop:=∃p∈o,p.1=j/\cd p.2 a
theorem CL.mono{a b:Out}{j:Nat}{c:M D}(h:CL a j c)(d:∀p∈a,p∈b):CL b j c:=by
 obtain⟨p,f,e⟩:=h;exact⟨p,d p f,e⟩
theorem Cu{p:Nat×M AV}{j:Nat}{d:M D}:∀{l:Out},(p.1=j/\cd p.2 d)\/CL l j d->CL (ZO p l) j d
 |[],h=>by
  rcases h with h|⟨q,h,_⟩
  ·exact⟨p,aU,h⟩
  ·cases h
 |q::l,h=>by
  unfold ZO;split
  ·rename_i f;rcases h with h|⟨x,a,c,b⟩
   ·exact⟨_,aU,f.1.trans h.1,V5 f.2 h.2⟩
   ·rcases aP.1 a with rfl|a
    ·exact⟨_,aU,c,V4 f.2 b⟩
    ·exact⟨x,bk _ a,c,b⟩
  ·rcases h with h|⟨x,a,c,b⟩
   ·exact (Cu (.inl h)).mono λp e=>bk _ e
   ·rcases aP.1 a with rfl|a
    ·exact⟨x,aU,c,b⟩
    ·exact (Cu (.inr ⟨x,a,c,b⟩)).mono λp e=>bk _ e
theorem Dx{j:Nat}{b:M D}:∀{l:Out},CL l j b->CL (G6 l) j b
 |[],h=>h
 |p::l,⟨x,a,h⟩=>by
  unfold G6;rcases aP.1 a with rfl|a
  ·exact Cu (.inl h)
  ·exact Cu (.inr (Dx ⟨x,a,h⟩))
def goS:Out->Out
 |[]=>[]
 |p::l=>if p.1 % 2=0 then (p.1 / 2,p.2)::goS l else goS l
def ouS:Out->Out
 |[]=>[]
 |p::l=>if p.1 % 2=0 then ouS l else (p.1 / 2,p.2)::ouS l
theorem Vn{j:Nat}{c:M D}(d:j % 2=0):∀{l:Out},CL l j c->CL (goS l) (j / 2) c
 |p::l,⟨x,a,b,e⟩=>by
  unfold goS;rcases aP.1 a with rfl|a
  ·rw[if_pos (by rw[b];exact d)];exact⟨_,aU,by rw[b],e⟩
  ·have:=Vn d (l:=l) ⟨x,a,b,e⟩;split
   ·exact this.mono λp f=>bk _ f
   ·exact this
 |[],⟨x,a,_⟩=>by cases a
theorem WL{j:Nat}{c:M D}(d:¬j % 2=0):∀{l:Out},CL l j c->CL (ouS l) (j / 2) c
 |p::l,⟨x,a,b,e⟩=>by
  unfold ouS;rcases aP.1 a with rfl|a
  ·rw[if_neg (by rw[b];exact d)];exact⟨_,aU,by rw[b],e⟩
  ·have:=WL d (l:=l) ⟨x,a,b,e⟩;split
   ·exact this
   ·exact this.mono λp f=>bk _ f
 |[],⟨x,a,_⟩=>by cases a
def P3(f:Nat->M AV->u Out):Nat->Out->u Out
 |_,[]=>Z []
 |0,_::_=>O
 |n+1,p::l=>match yk (p::l) (λq=>f q.1 q.2) with
  |some o=>(match P3 f n (goS (G6 o)) with
   |some r=>Z (ouS (G6 o)++r)
   |none=>O)
  |none=>O
inductive Tm where
 |v (i:Nat)
 |k (x:SK)
 |o (op:PO) (as_:Tm)
 |c (i:Nat) (as_:Tm) (j:Nat)
 |e (a:Tm) (j:Nat)
 |nil
 |cons (a b:Tm)
 deriving DecidableEq
noncomputable def tv(G:Gf)(f:M D):Tm->u (M D)
 | .v i=>(nth f i).map ([·])
 | .k x=>Z [x.d]
 | .o op a=>match tv G f a with
  |some g=>(aK op g).map ([·])
  |none=>O
 | .c i a j=>match tv G f a with
  |some g=>(match G i g with
   |some r=>(nth r.2 j).map ([·])
   |none=>O)
  |none=>O
 | .e a j=>match tv G f a with
  |some [x]=>(match TM x with
   |some h=>(nth h j).map ([·])
   |none=>O)
  |_=>O
 | .nil=>Z []
 | .cons a b=>match tv G f a,tv G f b with
  |some [x],Z l=>Z (x::l)
  |_,_=>O
def zP(G:Gf)(a:M D):M Tm->M D->Prop
 |[],[]=>True
 |t::b,d::c=>tv G a t=Z [d]/\zP G a b c
 |_,_=>False
theorem JG{G:Gf}{b:M D}:∀{c a:M Tm} {f es:M D},zP G b c f->zP G b a es->zP G b (c++a) (f++es)
 |[],a,[],es,_,h=>h
 |t::c,a,d::f,es,e,g=>by
  simp only[aq,zP]at e ⊢;exact⟨e.1,JG e.2 g⟩
 |[],_,_::_,_,h,_|_::_,_,[],_,h,_=>by simp only[zP]at h
theorem JH{G:Gf}{c:M D}:∀{ts:M Tm} {ds:M D} {i:Nat} {t:Tm} {d:D},zP G c ts ds->nth ts i=Z t->nth ds i=Z d->tv G c t=Z [d]
 |t::ts,d::ds,0,_,_,h,b,a=>by
  cases b;cases a;simp only[zP]at h;exact h.1
 |t::ts,d::ds,i+1,_,_,h,b,a=>by
  simp only[zP]at h;exact JH (ts:=ts) (ds:=ds) h.2 b a
 |[],_,_,_,_,_,b,_=>by cases b
 |_::_,[],_,_,_,_,_,a=>by cases a
theorem QX{G:Gf}{g:M D}:∀{a:M Tm} {f es:M D},zP G g a f->zP G g a es->f=es
 |[],[],[],_,_=>rfl
 |t::a,d::f,e::es,c,b=>by
  simp only[zP]at c b;have i:=c.1.symm.trans b.1;simp only[aa,bZ,and_true]at i;rw[i,QX c.2 b.2]
 |[],_::_,_,h,_|_::_,[],_,h,_=>by simp only[zP]at h
 |[],[],_::_,_,h|_::_,_::_,[],_,h=>by simp only[zP]at h
def vsT(n:Nat):M Tm:=(bW n).map .v
theorem X6(G:Gf)(a:M D):zP G a (vsT a.length) a:=by
 have f:∀(m i:Nat) (b:M D),a.drop i=b->b.length=m->zP G a ((sF i m).map .v) b:=by
  intro m
  induction m with
  |zero=>
   intro i b c e;rw[cG.1 e];exact trivial
  |succ m h=>
   intro i b c e;cases b with
   |nil=>cases e
   |cons d b=>
    rw[List.range'_succ,aW];simp only[zP,tv];have j:nth a i=Z d:=by
     rw[fU,bm];have g:i < a.length:=by
      have:=congrArg List.length c;rw[bT,aE]at this;omega
     refine⟨g,?_⟩;rw[sw g]at c;exact (List.cons.inj c).1
    rw[j];refine⟨rfl,h (i+1) b ?_ (by simpa using e)⟩;rw[<- kO,c];rfl
 have:=f a.length 0 a (by simp) rfl;unfold vsT
 rwa [List.range_eq_range']
def seT(a:M Tm):SE->u Tm
 | .v i=>nth a i
 | .k x=>Z (.k x)
 | .c i j=>(nth a i).map (.e · j)
def Xx(c:M Tm):M SE->u Tm
 |[]=>Z .nil
 |e::es=>match seT c e,Xx c es with
  |some a,Z b=>Z (.cons a b)
  |_,_=>O
def aaZ(c:M Tm):M SE->u (M Tm)
 |[]=>Z []
 |e::es=>match seT c e,aaZ c es with
  |some a,Z b=>Z (a::b)
  |_,_=>O
theorem Xu{G:Gf}{l g:M D}{b:M Tm}(h:zP G l b g){e:SE}{t:Tm}{d:D}(f:seT b e=Z t)(hd:e.d g=Z d):tv G l t=Z [d]:=by
 cases e with
 |v i=>exact JH h f hd
 |k x=>cases f;cases hd;rfl
 |c i j=>
  simp only[seT]at f;obtain⟨a,p,rfl⟩:=ak.1 f;simp only[SE.d]at hd
  split at hd
  ·rename_i x m;have o:=JH h p m;simp only[tv,o]
   split at hd
   ·rename_i q n;simp only[n,hd,aH]
   ·cases hd
  ·cases hd
theorem Ju{G:Gf}{i g:M D}{d:M Tm}(h:zP G i d g):∀{es:M SE} {t:Tm} {f:M D},Xx d es=Z t->iT g es=Z f->tv G i t=Z f
 |[],t,f,c,hd=>by cases c;cases hd;rfl
 |e::es,t,f,c,hd=>by
  unfold Xx at c
  split at c
  ·rename_i a b m k;cases c;simp only[iT]at hd
   split at hd
   ·rename_i x j;obtain⟨l,n,rfl⟩:=ak.1 hd;simp only[tv,Xu h m j,Ju h k n]
   ·cases hd
  ·cases c
theorem QQ{G:Gf}{i g:M D}{d:M Tm}(h:zP G i d g):∀{es:M SE} {t:M Tm} {f:M D},aaZ d es=Z t->iT g es=Z f->zP G i t f
 |[],t,f,c,hd=>by cases c;cases hd;exact trivial
 |e::es,t,f,c,hd=>by
  unfold aaZ at c
  split at c
  ·rename_i a b m k;cases c;simp only[iT]at hd
   split at hd
   ·rename_i x j;obtain⟨l,n,rfl⟩:=ak.1 hd;simp only[zP];exact⟨Xu h m j,QQ h k n⟩
   ·cases hd
  ·cases c
def YM(G:Gf)(c:Nat->u Nat):Prop:=∀i m,c i=Z m->∀b j a,G i b=Z (j,a)->j=0/\a.length=m
def crT(i:Nat)(a:Tm)(m:Nat):M Tm:=(bW m).map (.c i a ·)
theorem acK{G:Gf}{g:M D}{i:Nat}{a:Tm}{p e:M D}{j:Nat}(t:tv G g a=Z p)(s:G i p=Z (j,e)):zP G g (crT i a e.length) e:=by
 have l:∀(m k:Nat) (b:M D),e.drop k=b->b.length=m->zP G g ((sF k m).map (.c i a ·)) b:=by
  intro m
  induction m with
  |zero=>
   intro k b _ h;rw[cG.1 h];exact trivial
  |succ m q=>
   intro k b f o;cases b with
   |nil=>cases o
   |cons d b=>
    rw[List.range'_succ,aW];simp only[zP,tv,t,s];have n:k < e.length:=by
     have:=congrArg List.length f;rw[bT,aE]at this;omega
    have r:nth e k=Z d:=by
     rw[fU,bm];refine⟨n,?_⟩;rw[sw n]at f;exact (List.cons.inj f).1
    rw[r];refine⟨rfl,q (k+1) b ?_ (by simpa using o)⟩;rw[<- kO,f];rfl
 have:=l e.length 0 e (by simp) rfl;unfold crT
 rwa [List.range_eq_range']
def Bc(b:Nat->u Nat):ST->M Tm->u (Nat×M Tm)
 | .op [] o es t,env=>match Xx env es with
  |some a=>Bc b t (env++[.o o a])
  |none=>O
 | .call i es (.cons t _),env=>match Xx env es,b i with
  |some a,Z m=>Bc b t (env++crT i a m)
  |_,_=>O
 | .leaf j es,env=>(aaZ env es).map (j,·)
 | .both a _,env=>Bc b a env
 |_,_=>O
theorem zw{G:Gf}{A:Nat->u Nat}(p:YM G A){v:M D}:∀(t:ST) {d:M Tm} {e:M D} {j k:Nat} {g:M Tm} {f:M D},zP G v d e->Bc A t d=Z (j,g)->dY G t 0 e=Z (k,f)->k=j/\zP G v g f
 | .op [] o es t,d,e,j,k,g,f,h,c,hd=>by
  simp only[Bc]at c
  split at c
  ·rename_i a s;simp only[dY,iJ]at hd
   split at hd
   ·rename_i w n
    split at hd
    ·rename_i x q;exact zw p t (JG h (by simp only[zP,tv,Ju h s n,q,aH];exact⟨trivial,trivial⟩)) c hd
    ·cases hd
   ·cases hd
  ·cases c
 | .op (_::_) _ _ _,_,_,_,_,_,_,_,c,_=>by simp only[Bc]at c;cases c
 | .call i es (.cons t r),d,e,j,k,g,f,h,c,hd=>by
  simp only[Bc]at c
  split at c
  ·rename_i a m s C;simp only[dY]at hd
   split at hd
   ·rename_i w n
    split at hd
    ·rename_i B K y;obtain⟨rfl,rfl⟩:=p i m C _ _ _ y;exact zw p t (JG h (acK (Ju h s n) y)) c hd
    ·cases hd
   ·cases hd
  ·cases c
 | .leaf B es,d,e,j,k,g,f,h,c,hd=>by
  simp only[Bc]at c;obtain⟨l,H,F⟩:=ak.1 c;cases F;simp only[dY]at hd
  split at hd
  ·rename_i w n;cases hd;exact⟨rfl,QQ h H n⟩
  ·cases hd
 | .both a b,d,e,j,k,g,f,h,c,hd=>by
  simp only[Bc]at c;simp only[dY]at hd;exact zw p a h c (Kj hd).1
 | .nil,_,_,_,_,_,_,_,c,_ | .cons _ _,_,_,_,_,_,_,_,c,_ | .gd _ _ _,_,_,_,_,_,_,_,c,_ | .map _ _,_,_,_,_,_,_,_,c,_ | .seq _ _,_,_,_,_,_,_,_,c,_ | .loop _ _ _,_,_,_,_,_,_,_,c,_=>by simp only[Bc]at c;cases c
 | .call _ _ .nil,_,_,_,_,_,_,_,c,_ | .call _ _ (.op _ _ _ _),_,_,_,_,_,_,_,c,_ | .call _ _ (.gd _ _ _),_,_,_,_,_,_,_,c,_ | .call _ _ (.call _ _ _),_,_,_,_,_,_,_,c,_ | .call _ _ (.leaf _ _),_,_,_,_,_,_,_,c,_ | .call _ _ (.map _ _),_,_,_,_,_,_,_,c,_ | .call _ _ (.seq _ _),_,_,_,_,_,_,_,c,_ | .call _ _ (.loop _ _ _),_,_,_,_,_,_,_,c,_ | .call _ _ (.both _ _),_,_,_,_,_,_,_,c,_=>by simp only[Bc]at c;cases c
def ae9(c:Nat->u Nat)(n:Nat)(a b:ST):Bool:=match Bc c a (vsT n),Bc c b (vsT n) with
 |some x,Z y=>Z' (x=y)
 |_,_=>J
theorem aaX{G:Gf}{f:Nat->u Nat}(e:YM G f){a b:ST}{c:M D}(h:ae9 f c.length a b=I){r d:Nat×M D}(k:dY G a 0 c=Z r)(j:dY G b 0 c=Z d):r=d:=by
 unfold ae9 at h
 split at h
 ·rename_i x y i g;have:=of_decide_eq_true h;subst this;obtain⟨o,n⟩:=zw e a (X6 G c) i k;obtain⟨m,l⟩:=zw e b (X6 G c) g j;exact Prod.ext (o.trans m.symm) (QX n l)
 ·cases h
def od(c:Nat->u Nat)(S:Nat->M AV->u Out)(n:Nat):ST->Nat->M AV->u Out
 | .nil,_,_=>O
 | .cons a _,0,env=>od c S n a 0 env
 | .cons _ b,j+1,env=>od c S n b j env
 | .op gs o es t,_,env=>match GI env gs with
  |some l=>yk l λp=>match p.2 with
   |true=>(match Oc p.1 es with
    |some d=>(match evB o d with
     |some x=>od c S n t 0 (p.1++[x])
     |none=>O)
    |none=>O)
   |false=>od c S n t 0 (p.1++[.Fj (.bool J)])
  |none=>O
 | .gd gs a b,_,env=>match GI env gs with
  |some l=>yk l λp=>match p.2 with
   |true=>od c S n a 0 p.1
   |false=>od c S n b 0 p.1
  |none=>O
 | .call i es g,_,env=>match Oc env es with
  |some d=>(match S i d with
   |some o=>yk o λp=>od c S n g p.1 (env++p.2)
   |none=>O)
  |none=>O
 | .leaf j es,_,env=>match Oc env es with
  |some d=>Z [(j,d)]
  |none=>O
 | .map f t,_,env=>match od c S n t 0 env with
  |some o=>yk o λp=>match nth f p.1 with
   |some k=>Z [(k,p.2)]
   |none=>O
  |none=>O
 | .seq t g,_,env=>match od c S n t 0 env with
  |some o=>yk (G6 o) λp=>od c S n g p.1 p.2
  |none=>O
 | .loop h es q,_,env=>match Oc env es with
  |some m=>P3 (λj e=>od c S n q j e) n [(h,m)]
  |none=>O
 | .both a b,_,env=>match ae9 c env.length a b with
  |true=>(match od c S n b 0 env with
   |some _=>od c S n a 0 env
   |none=>O)
  |false=>O
def J6(G:Gf)(S:Nat->M AV->u Out):Prop:=∀i a o,S i a=Z o->∀b,cd a b->∃j c,G i b=Z (j,c)/\CL o j c
theorem Lz{G:Gf}{bs:ST}{f:Nat->M AV->u Out}(s:∀j e o,f j e=Z o->∀c,cd e c->∃k b,dY G bs j c=Z (k,b)/\CL o k b):∀{n:Nat} {st o:Out},P3 f n st=Z o->∀p∈st,∀c,cd p.2 c->
  ∃k b,bK (λp=>wR (dY G bs p.1 p.2)) (p.1,c)=Z (k,b)/\CL o k b
 |_,[],_,_,p,d,_,_=>by cases d
 |0,_::_,_,h,_,_,_,_=>by cases h
 |n+1,q::l,o,h,p,d,c,i=>by
  unfold P3 at h
  split at h
  ·rename_i H m
   split at h
   ·rename_i r C;cases h;obtain⟨a,a1,a2⟩:=pD m p d;obtain⟨k,b,t,D⟩:=s p.1 p.2 a a1 c i;have v:=Dx (D.mono a2);by_cases g:k % 2=0
    ·obtain⟨x,A,y,w⟩:=Vn g v;obtain⟨B,F,y1,y2⟩:=Lz s C x A b w;refine⟨B,F,?_,y2.mono λp d=>List.mem_append_right _ d⟩;rw[<- y1,y];refine bB ?_;simp only[t,wR,if_pos g]
    ·refine⟨k / 2,b,?_,(WL g v).mono λp d=>List.mem_append_left _ d⟩;refine aF ?_;simp only[t,wR,if_neg g]
   ·cases h
  ·cases h
theorem ll{G:Gf}{ar:Nat->u Nat}(y:YM G ar){S:Nat->M AV->u Out}(w:J6 G S){n:Nat}:∀(t:ST) (j:Nat) (c:M AV) (o:Out),od ar S n t j c=Z o->∀g,cd c g->∃k r,dY G t j g=Z (k,r)/\CL o k r
 | .nil,j,c,o,h,g,q=>by simp only[od]at h;cases h
 | .cons a b,0,c,o,h,g,q=>by
  simp only[od]at h;rw[abH];exact ll y w a 0 c o h g q
 | .cons a b,j+1,c,o,h,g,q=>by
  simp only[od]at h;rw[abI];exact ll y w b j c o h g q
 | .op gs po es t,j,c,o,h,g,q=>by
  simp only[od]at h
  split at h
  ·rename_i l X;obtain⟨⟨akO,b⟩,C,v,A⟩:=yB X q;obtain⟨a,a1,a2⟩:=pD h _ C;dsimp only at v A a1;cases b with
   |true=>
    dsimp only at a1
    split at a1
    ·rename_i Q N
     split at a1
     ·rename_i x hx;obtain⟨L,K,H⟩:=zq v N;obtain⟨d,d3,d4⟩:=acV hx H;obtain⟨k,r,s,B⟩:=ll y w t 0 _ a a1 (g++[d]) (yC v (La d4));refine⟨k,r,?_,B.mono a2⟩;simp only[dY,A,K,d3,s]
     ·cases a1
    ·cases a1
   |false=>
    obtain⟨k,r,s,B⟩:=ll y w t 0 _ a a1 (g++[.bool J]) (yC v (La (by simp only[eU])));refine⟨k,r,?_,B.mono a2⟩;simp only[dY,A,s]
  ·cases h
 | .gd gs t t',j,c,o,h,g,q=>by
  simp only[od]at h
  split at h
  ·rename_i l X;obtain⟨⟨akO,b⟩,C,v,A⟩:=yB X q;obtain⟨a,a1,a2⟩:=pD h _ C;dsimp only at v A a1;cases b with
   |true=>
    obtain⟨k,r,s,B⟩:=ll y w t 0 _ a a1 g v;refine⟨k,r,?_,B.mono a2⟩;simp only[dY,A,s]
   |false=>
    obtain⟨k,r,s,B⟩:=ll y w t' 0 _ a a1 g v;refine⟨k,r,?_,B.mono a2⟩;simp only[dY,A,s]
  ·cases h
 | .call i es R,j,c,o,h,g,q=>by
  simp only[od]at h
  split at h
  ·rename_i Q N
   split at h
   ·rename_i so W;obtain⟨L,K,H⟩:=zq q N;obtain⟨j',us,s,⟨p,C,v,A⟩⟩:=w i Q so W L H;obtain⟨a,a1,a2⟩:=pD h p C;obtain⟨k,r,D,Y⟩:=ll y w R p.1 _ a a1 (g++us) (yC q A);refine⟨k,r,?_,Y.mono a2⟩;rw[v]at D;simp only[dY,K,s,D]
   ·cases h
  ·cases h
 | .leaf k es,j,c,o,h,g,q=>by
  simp only[od]at h
  split at h
  ·rename_i Q N;cases h;obtain⟨L,K,H⟩:=zq q N;exact⟨k,L,by simp only[dY,K],⟨_,aU,rfl,H⟩⟩
  ·cases h
 | .map f t,j,c,o,h,g,q=>by
  simp only[od]at h
  split at h
  ·rename_i T F;obtain⟨k,r,s,⟨p,C,v,A⟩⟩:=ll y w t 0 c T F g q;obtain⟨a,a1,a2⟩:=pD h p C
   split at a1
   ·rename_i m hm;cases a1;rw[v]at hm;exact⟨m,r,by simp only[dY,s,hm,aH],⟨_,a2 _ aU,rfl,A⟩⟩
   ·cases a1
  ·cases h
 | .seq t R,j,c,o,h,g,q=>by
  simp only[od]at h
  split at h
  ·rename_i T F;obtain⟨k,r,s,B⟩:=ll y w t 0 c T F g q;obtain⟨p,C,v,A⟩:=Dx B;obtain⟨a,a1,a2⟩:=pD h p C;obtain⟨k',P,D,Y⟩:=ll y w R p.1 p.2 a a1 r A;rw[v]at D;exact⟨k',P,by simp only[dY,s,D],Y.mono a2⟩
  ·cases h
 | .loop hd es bs,j,c,o,h,g,q=>by
  simp only[od]at h
  split at h
  ·rename_i r U;obtain⟨L,K,H⟩:=zq q U;obtain⟨k,P,s,B⟩:=Lz (G:=G) (bs:=bs) (λj e o h g V=>ll y w bs j e o h g V) h (hd,r) aU L H;exact⟨k,P,by simp only[dY,K];exact s,B⟩
  ·cases h
 | .both a b,j,c,o,h,g,q=>by
  simp only[od]at h
  split at h
  ·rename_i he
   split at h
   ·rename_i o2 h2;obtain⟨k,r,s,B⟩:=ll y w a 0 c o h g q;obtain⟨k',P,D,_⟩:=ll y w b 0 c o2 h2 g q;have:=aaX y (by rw[<- pJ q];exact he) s D;cases this;exact⟨k,r,by simp only[dY,s,D,CW],B⟩
   ·cases h
  ·cases h
end
structure TR where
 i:Nat
 h:List Nat
 r:R_ h i
def trF:M TR->Nat->u ST
 |[],_=>O
 |x::xs,i=>match fj x.i i with
  |true=>Z x.r.t
  |false=>trF xs i
theorem XZ:∀{l:M TR} {i:Nat} {t:ST},trF l i=Z t->∃h,tx h i=Z t
 |[],_,_,h=>by cases h
 |x::xs,i,t,h=>by
  unfold trF at h
  split at h
  ·rename_i a;cases h;have:=gl a;subst this;exact⟨x.h,x.r.ok⟩
  ·exact XZ h
def Bp:M Fh->M AV->Bool
 |[],[]=>I
 | .d::c,_::b=>Bp c b
 | .row k f _ _ _::c,a::b=>(match a with
  | .Fj (.list e g _)=>fj e k && (g ==f)
  | .nil e g=>fj e k && (g ==f)
  | .lst t _ _=>fj (kw t) k && (Bt t ==f)
  |_=>J) && Bp c b
 |_,_=>J
theorem C8:∀{g:M Fh} {c:M AV} {j:M D},Bp g c=I->cd c j->∃i,mo g j=Z i
 |[],[],[],_,_=>⟨[],rfl⟩
 |[],[],_::_,_,e=>by simp only[cd]at e
 |[],_::_,_,h,_=>by simp only[Bp]at h;cases h
 |v::g,[],_,h,_=>by cases v<;>(simp only[Bp]at h;cases h)
 |v::g,a::c,[],_,e=>by simp only[cd]at e
 | .d::g,a::c,d::j,h,e=>by
  simp only[Bp]at h;simp only[cd]at e;obtain⟨i,l⟩:=C8 h e.2;exact⟨.d d::i,by simp only[mo,Ag,l,aH]⟩
 | .row k m p q r::g,a::c,d::j,h,e=>by
  simp only[Bp,af]at h;simp only[cd]at e;obtain⟨i,l⟩:=C8 h.2 e.2;obtain⟨es,rfl⟩:∃es,d=.list k m es:=by
   have b:=h.1;have f:=e.1
   split at b
   ·simp only[af,beq_iff_eq,rE]at b;simp only[eU]at f;exact⟨_,by rw[f,b.1,b.2]⟩
   ·simp only[af,beq_iff_eq,rE]at b;simp only[eU]at f;exact⟨_,by rw[f,b.1,b.2]⟩
   ·simp only[af,beq_iff_eq,rE]at b;obtain⟨es,f,_⟩:=fw f;exact⟨_,by rw[f,b.1,b.2]⟩
   ·cases b
  exact⟨.row ⟨es,k,m,p,q,r⟩::i,by simp only[mo,Ag,and_self,if_true,l,aH]⟩
def saL:SA->M Fh
 | .val _ l=>l
 | .box l=>l
def KS:M SA->M AV->Bool
 |[],[]=>I
 |[],_::_=>J
 |a::l,xs=>Bp (saL a) (xs.take a.n) && KS l (xs.drop a.n)
theorem KU:∀{l:M SA} {b:M AV} {e:M D},KS l b=I->cd b e->∃k,gN l e=Z k
 |[],[],[],_,_=>⟨[],rfl⟩
 |[],[],_::_,_,d=>by simp only[cd]at d
 |[],_::_,_,h,_=>by simp only[KS]at h;cases h
 |a::l,b,e,h,d=>by
  simp only[KS,af]at h;obtain⟨g1,g2⟩:=Aq a.n d;obtain⟨g,c⟩:=C8 h.1 g1;obtain⟨f,i⟩:=KU h.2 g2;unfold gN;cases a with
  |val m j=>exact⟨.val m g::f,by simp only[saL]at c;simp only[lR,c,aH,i]⟩
  |box j=>exact⟨.box g::f,by simp only[saL]at c;simp only[lR,c,aH,i]⟩
def UP(i:Nat)(a:M AV):Bool:=match look nY i with
 |some b=>KS b.args a
 |none=>J
theorem UQ{i:Nat}{a:M AV}{b:M D}(h:UP i a=I)(e:cd a b):∃c,Rq i b=Z c:=by
 unfold UP at h;unfold Rq
 split at h
 ·rename_i f d;rw[d];exact KU h e
 ·cases h
def arS(i:Nat):u Nat:=match look nY i with
 |some a=>match a.res with
  |[v]=>Z (tY v.1+tY v.2)
  |_=>O
 |none=>O
theorem acB:YM (GF T nY) arS:=by
 intro i m a k j n h;unfold arS at a
 split at a
 ·rename_i d f;obtain⟨g,r,v,q,c,b,p⟩:=CK T nY i d f _ _ _ h
  split at a
  ·rename_i l e;cases a;rw[e]at c;cases j with
   |zero=>
    cases c;refine⟨rfl,?_⟩;unfold wq at b
    split at b
    ·rename_i o outs g1 g2;have a1:=mM g1;have a2:=mM g2;rw[bj]at a1;rw[bT]at a2;omega
    ·cases b
   |succ j=>cases c
  ·cases a
 ·cases a
abbrev YS:=Nat->M AV->u Out
def SmT(b:YS)(l:M TR)(rounds:Nat):Nat->YS
 |0,_,_=>O
 |n+1,i,a=>match trF l i with
  |some t=>(match UP i a with
   |true=>od arS (SmT b l rounds n) rounds t 0 a
   |false=>O)
  |none=>b i a
theorem HP{e:YS}{l:M TR}{m:Nat}(d:J6 (GF T nY) e):∀n,J6 (GF T nY) (SmT e l m n)
 |0,_,_,_,h=>by cases h
 |n+1,i,a,o,h=>by
  intro c b;unfold SmT at h
  split at h
  ·rename_i t g
   split at h
   ·rename_i j;obtain⟨w,s⟩:=XZ g;obtain⟨k,f,r,q⟩:=ll acB (HP d n) t 0 a o h c b;obtain⟨v,p⟩:=UQ j b;exact⟨k,f,dd ⟨t,s⟩ p r,q⟩
   ·cases h
  ·exact d i a o h c b
def J8(i:Nat)(f:M AV->u Out)(S:YS):YS:=λj a=>match fj i j with
 |true=>f a
 |false=>S j a
def aid:YS:=λ_ _=>O
theorem ad0{G:Gf}:J6 G aid:=λ_ _ _ h=>by cases h
theorem vB{G:Gf}{i:Nat}{f:M AV->u Out}{S:YS}(e:∀a o,f a=Z o->∀b,cd a b->∃j c,G i b=Z (j,c)/\CL o j c)(k:J6 G S):J6 G (J8 i f S):=by
 intro j a o h b d;unfold J8 at h
 split at h
 ·rename_i g;have:=gl g;subst this;exact e a o h b d
 ·exact k j a o h b d
section
theorem WX(n:Int)(k:Int)(a:0<=k/\k<=63):aK (.bin .shr) [.int .i64 n,.int .u64 k]=Z (.int .i64 (n / 2 ^ k.toNat)):=by
 simp only[aK,Kf,Xz];rw[if_neg (by decide)];simp only[a,and_self,if_true];rfl
theorem N7(n k:Int)(d:0<=k/\k<=9223372036854775807):∃a,aK (.bin .and) [.int .i64 n,.int .i64 k]=Z (.int .i64 a)/\0<=a/\a<=k:=by
 have c:=Ub (x:=n) (y:=k) (by omega) (by omega);have b:IntKind.i64.wrap (dK 64 n &&& dK 64 k).toNat=(dK 64 n &&& dK 64 k).toNat:=wrap_i64 (by omega);refine⟨(dK 64 n &&& dK 64 k).toNat,?_,by omega,by omega⟩;rw[sf];show Z (D.int .i64 (IntKind.i64.wrap (dK 64 n &&& dK 64 k).toNat))=_;rw[b]
theorem aec(n k:Int):∃a,aK (.bin .xor) [.int .i64 n,.int .i64 k]=Z (.int .i64 a):=by
 rw[sf];exact⟨_,rfl⟩
def Yo(n:Int):Prop:=-9223372036854775808<=n/\n<=9223372036854775807
theorem Yo.w(a:Int):Yo (IntKind.i64.wrap a):=sW (wrap_wrap _ _)
theorem ajg{b:M (M D)}{i h:Int}(A:hO maxLen 16 b)(N:b.length<=8192)(s:0<=i/\i<=8192) :
  ∃x a g,G 388 [.list 1 I b,.int .i64 i,.int .i64 h]=Z (0,[.int .i64 x,.list 1 I b,.int .i64 a,.int .i64 g])/\(0<=x/\x<=255)/\(0<=a/\a<=8192)/\Yo g:=by
 obtain⟨n,rfl⟩:∃n:Nat,i=(n:Int):=⟨i.toNat,by omega⟩
 have q:IntKind.i64.wrap ((n:Int)+1)=((n+1:Nat):Int):=by rw[wrap_i64 (by omega)];omega
 obtain⟨p,o⟩:=aec (IntKind.i64.wrap (IntKind.i64.wrap (h * 6364136223846793005)+1442695040888963407) / 2 ^ (33:Int).toNat) (IntKind.i64.wrap (IntKind.i64.wrap (h * 6364136223846793005)+1442695040888963407) / 2 ^ (47:Int).toNat);obtain⟨z2,m,H,F⟩:=N7 p 255 (by omega);have l:=WX (IntKind.i64.wrap (IntKind.i64.wrap (h * 6364136223846793005)+1442695040888963407)) 33 (by omega);have k:=WX (IntKind.i64.wrap (IntKind.i64.wrap (h * 6364136223846793005)+1442695040888963407)) 47 (by omega);have j:=Yo.w (IntKind.i64.wrap (h * 6364136223846793005)+1442695040888963407);by_cases y:n < b.length
 ·obtain⟨e,f⟩:∃e,nth b n=Z e:=⟨_,dV y⟩
  have r:=A.WA f;obtain⟨v,rfl,d⟩:∃v,e=[.int .u8 v]/\(0<=v/\v<=255):=by
   obtain⟨x,L,rfl,C,B⟩:=gX.cons_inv (ts:=[]) (t:=.byte) r;obtain⟨v,rfl,d⟩:=C.rI;rw[B.jF];exact⟨v,rfl,d⟩
  have K:IntKind.i64.wrap v=v:=wrap_i64 (by omega);obtain⟨z3,g1,g2,g3⟩:=N7 (IntKind.i64.wrap (z2+v)) 255 (by omega);have c:(n:Int) < (b.length:Int):=by omega
  refine⟨z3,((n+1:Nat):Int),_,dd abc rfl ?_,⟨g2,g3⟩,⟨by omega,by omega⟩,j⟩;simp only[go_sem,abc,l,k,o,m,c,f,K,g1,q]
 ·have c:¬(n:Int) < (b.length:Int):=by omega
  refine⟨z2,_,_,dd abc rfl ?_,⟨H,F⟩,s,j⟩;simp only[go_sem,abc,l,k,o,m,c]
theorem WW{x n:Int}(a:0<=x)(b:1<=n):aK (.bin .rem) [.int .i64 x,.int .i64 n]=Z (.int .i64 (x % n)):=by
 rw[sf];exact if_pos ⟨rfl,a,b⟩
theorem ajh{b:M (M D)}{i h n:Int}(l:hO maxLen 16 b)(j:b.length<=8192)(k:0<=i/\i<=8192)(d:1<=n/\n<=256) :
  ∃x a c,G 389 [.list 1 I b,.int .i64 i,.int .i64 h,.int .i64 n]=Z (0,[.int .i64 x,.list 1 I b,.int .i64 a,.int .i64 c])/\(0<=x/\x < n)/\(0<=a/\a<=8192)/\Yo c:=by
 obtain⟨x,a,c,e,p,o,m⟩:=ajg (h:=h) l j k;have g:0<=x % n/\x % n < n:=⟨wH _ (by omega),rB _ (by omega)⟩
 have c1:¬n<=0:=by omega
 have f:=WW (x:=x) (n:=n) p.1 d.1;refine⟨x % n,a,c,dd aj7 rfl ?_,g,o,m⟩;simp only[go_sem,aj7,c1,d.2,e,f]
theorem am7{b:M (M D)}{i h:Int}{l:M z}(m:hO maxLen 16 b)(f:b.length<=8192)(j:0<=i/\i<=8192)(r:1<=l.length/\l.length<=256) :
  ∃s a c,G 426 [.list 1 I b,.int .i64 i,.int .i64 h,aO l]=Z (0,[.str s,.list 1 I b,.int .i64 a,.int .i64 c])/\s∈l/\(0<=a/\a<=8192)/\Yo c:=by
 obtain⟨x,a,c,e,q,p,o⟩:=ajh (h:=h) (n:=l.length) m f j (by omega);obtain⟨k,rfl⟩:∃k:Nat,x=(k:Int):=⟨x.toNat,by omega⟩
 have g:k < l.length:=by omega
 obtain⟨s,d⟩:∃s,nth l k=Z s:=⟨_,dV g⟩
 refine⟨s,a,c,dd aj_ rfl ?_,zd d,p,o⟩;simp only[go_sem,aj_,aj,e,aN,d,fR]
theorem PT{b:M (M D)}(n:hO maxLen 16 b)(r:b.length<=8192):∀(m i:Nat) (h:Int),i+m=b.length->∃c d,bK (lB G D1) (0,[.list 1 I b,.int .i64 h,.int .i64 (i:Int)])=Z (0,[.list 1 I b,.int .i64 c,.int .i64 d,.bool J])/\(Yo h->Yo c)
 |0,i,h,q=>by
  obtain rfl:i=b.length:=by omega
  refine⟨h,b.length,aF ?_,id⟩;simp only[go_sem,bn,D1,aG]
 |m+1,i,h,q=>by
  have f:i < b.length:=by omega
  have g:(i:Int) < (b.length:Int):=by omega
  by_cases l:(i:Int) < 4000
  ·obtain⟨e,k⟩:∃e,nth b i=Z e:=⟨_,dV f⟩
   have p:=n.WA k;obtain⟨v,rfl,j⟩:∃v,e=[.int .u8 v]/\(0<=v/\v<=255):=by
    obtain⟨x,C,rfl,w,s⟩:=gX.cons_inv (ts:=[]) (t:=.byte) p;obtain⟨v,rfl,j⟩:=w.rI;rw[s.jF];exact⟨v,rfl,j⟩
   have B:IntKind.i64.wrap v=v:=wrap_i64 (by omega);have o:IntKind.i64.wrap ((i:Int)+1)=((i+1:Nat):Int):=by rw[wrap_i64 (by omega)];omega
   obtain⟨a,g1,g2,g3⟩:=N7 (IntKind.i64.wrap (IntKind.i64.wrap (IntKind.i64.wrap (h * 141)+v)+11)) 1073741823 (by omega);obtain⟨c,d,A,y⟩:=PT n r m (i+1) a (by omega);refine⟨c,d,?_,λ_=>y ⟨by omega,by omega⟩⟩;rw[<- A];refine bB ?_;simp only[go_sem,bn,D1,f,g,l,k,B,o,g1]
  ·refine⟨h,i,aF ?_,id⟩;simp only[go_sem,bn,D1,f,g,l]
theorem amT{b:M (M D)}(f:hO maxLen 16 b)(e:b.length<=8192):∃a,G 386 [.list 1 I b]=Z (0,[.list 1 I b,.int .i64 0,.int .i64 a])/\Yo a:=by
 have d:IntKind.i64.wrap (331999+(b.length:Int))=331999+(b.length:Int):=wrap_i64 (by omega);obtain⟨a,h,c,g⟩:=PT f e b.length 0 (331999+(b.length:Int)) (by omega);rw[n0]at c;refine⟨a,dd aj6 rfl ?_,g ⟨by omega,by omega⟩⟩;simp only[go_sem,aj6,d,c]
end
section
theorem g4{a b c e:AV}{ds:M D}(h:cd [a,b,c,e] ds):∃w x y d,ds=[w,x,y,d]/\eU a w/\eU b x/\eU c y/\eU e d:=by
 match ds,h with
 |[],h=>simp only[cd]at h
 |w::ds,h=>
  simp only[cd]at h;obtain⟨x,y,d,rfl,f⟩:=g3 (ds:=ds) (by exact h.2);exact⟨w,x,y,d,rfl,h.1,f⟩
def C2(n:Nat):M AV:=[.lst 16 0 n,.int 0 8192,fuA]
theorem Kx{n:Nat}{b:M (M D)}{i h:Int}(f:hO maxLen 16 b)(e:b.length+nG b<=n)(d:n<=134217728)(c:0<=i/\i<=8192)(a:Yo h):cd (C2 n) [.list 1 I b,.int .i64 i,.int .i64 h]:=by
 simp only[C2,cd,and_true];exact⟨j7 (t:=16) f (cB _) e d,j6 c ⟨by omega,by omega⟩,j6 a a⟩
def f388(c:M AV):u Out:=match YI c with
 |[.lst t _ n,.int a b,.int _ _]=>if t=16/\n<=8192/\0<=a/\b<=8192 then Z [(0,.int 0 255::C2 n)] else O
 |_=>O
theorem Ze(a:M AV)(o:Out)(h:f388 a=Z o)(c:M D)(b:cd a c):∃j d,G 388 c=Z (j,d)/\CL o j d:=by
 unfold f388 at h
 split at h
 ·rename_i f;have b:=vw b;rw[f]at b
  split at h
  ·rename_i g;cases h;obtain⟨rfl,c1,v,t⟩:=g;obtain⟨s,r,q,rfl,g1,g2,g3⟩:=g3 b;obtain⟨es,rfl,a1,_,a2,a3⟩:=fw g1;obtain⟨i,rfl,y,w,_⟩:=eV g2;obtain⟨h,rfl,_⟩:=eV g3;obtain⟨x,n,p,e,m,l,k⟩:=ajg (h:=h) a1 (by omega) (i:=i) ⟨by omega,by omega⟩;refine⟨_,_,e,_,aU,rfl,?_⟩;simp only[cd];exact⟨j6 m ⟨by omega,by omega⟩,Kx a1 a2 a3 l k⟩
  ·cases h
 ·cases h
def f389(e:M AV):u Out:=match YI e with
 |[.lst t _ n,.int a b,.int _ _,.int c d]=>if t=16/\n<=8192/\0<=a/\b<=8192/\1<=c/\d<=256 then Z [(0,.int 0 (d - 1)::C2 n)] else O
 |_=>O
theorem Zf(a:M AV)(o:Out)(h:f389 a=Z o)(c:M D)(b:cd a c):∃j d,G 389 c=Z (j,d)/\CL o j d:=by
 unfold f389 at h
 split at h
 ·rename_i f;have b:=vw b;rw[f]at b
  split at h
  ·rename_i g;cases h;obtain⟨rfl,c1,C,B,A,y⟩:=g;obtain⟨w,v,t,s,rfl,g1,g2,g3,k⟩:=g4 b;obtain⟨es,rfl,a1,_,a2,a3⟩:=fw g1;obtain⟨i,rfl,H,F,_⟩:=eV g2;obtain⟨h,rfl,_⟩:=eV g3;obtain⟨n,rfl,n1,n2,_⟩:=eV k;obtain⟨x,p,q,e,r,m,l⟩:=ajh (h:=h) (n:=n) a1 (by omega) (i:=i) ⟨by omega,by omega⟩ ⟨by omega,by omega⟩;refine⟨_,_,e,_,aU,rfl,?_⟩;simp only[cd];exact⟨j6 ⟨by omega,by omega⟩ ⟨by omega,by omega⟩,Kx a1 a2 a3 m l⟩
  ·cases h
 ·cases h
theorem aal{es:M (M D)}(h:hO maxLen 0 es):∃l:M z,es=l.map fR/\∀s∈l,s.size+l.length<=es.length+nG es:=by
 induction es with
 |nil=>exact⟨[],rfl,λs h=>by cases h⟩
 |cons e es c=>
  simp only[hO]at h;obtain⟨l,b,g⟩:=c h.2;obtain⟨x,i,rfl,f,d⟩:=gX.cons_inv (ts:=[]) (t:=.str) h.1;obtain⟨s,rfl,_⟩:=f.j9;rw[d.jF];refine⟨s::l,by rw[b];rfl,λt a=>?_⟩;have j:l.length=es.length:=by rw[b,aj]
  simp only[nG,fN,D.sz,aE];rcases aP.1 a with rfl|a
  ·omega
  ·have:=g t a;omega
def f426(c:M AV):u Out:=match YI c with
 |[.lst t _ n,.int a b,.int _ _,.lst e d m]=>if t=16/\n<=8192/\0<=a/\b<=8192/\e=0/\1<=d/\m<=256 then Z [(0,.str (m - d)::C2 n)] else O
 |_=>O
theorem Zh(a:M AV)(o:Out)(h:f426 a=Z o)(c:M D)(b:cd a c):∃j d,G 426 c=Z (j,d)/\CL o j d:=by
 unfold f426 at h
 split at h
 ·rename_i n;have b:=vw b;rw[n]at b
  split at h
  ·rename_i p;cases h;obtain⟨rfl,c1,P,N,rfl,L,K⟩:=p;obtain⟨H,F,C,B,rfl,g1,g2,g3,q⟩:=g4 b;obtain⟨es,rfl,a1,_,a2,a3⟩:=fw g1;obtain⟨i,rfl,R,Q,_⟩:=eV g2;obtain⟨h,rfl,_⟩:=eV g3;obtain⟨w,rfl,m,k,g,x⟩:=fw q;obtain⟨l,rfl,f⟩:=aal m;rw[aj]at k g f;obtain⟨s,y,A,e,v,t,r⟩:=am7 (h:=h) (l:=l) a1 (by omega) (i:=i) ⟨by omega,by omega⟩ ⟨by omega,by omega⟩;refine⟨_,_,e,_,aU,rfl,?_⟩;have:=f s v;simp only[cd];refine⟨?_,Kx a1 a2 a3 t r⟩;simp only[eU];exact⟨s,rfl,by omega⟩
  ·cases h
 ·cases h
def f386(a:M AV):u Out:=match YI a with
 |[.lst t _ n]=>if t=16/\n<=8192 then Z [(0,C2 n)] else O
 |_=>O
theorem Zd(a:M AV)(o:Out)(h:f386 a=Z o)(c:M D)(b:cd a c):∃j d,G 386 c=Z (j,d)/\CL o j d:=by
 unfold f386 at h
 split at h
 ·rename_i f;have b:=vw b;rw[f]at b
  split at h
  ·rename_i g;cases h;obtain⟨rfl,c1⟩:=g;obtain⟨l,rfl,g1⟩:=g1 b;obtain⟨es,rfl,a1,_,a2,a3⟩:=fw g1;obtain⟨k,e,i⟩:=amT a1 (by omega);exact⟨_,_,e,_,aU,rfl,Kx a1 a2 a3 ⟨by omega,by omega⟩ i⟩
  ·cases h
 ·cases h
def bsC:YS:=J8 388 f388 (J8 389 f389 (J8 426 f426 (J8 386 f386 aid)))
theorem MY:J6 G bsC:=vB Ze (vB Zf (vB Zh (vB Zd ad0)))
end
section
theorem Ut(a:Nat){l:M ah}:∀(c:M ah) (at_:M z),av c < a->(uF l c at_).2.length<=at_.length+bQ aB c:=by
 induction a with
 |zero=>intro c at_ h;omega
 |succ a e=>
  intro c at_ h;cases c with
  |nil=>rw[uF];exact cB _
  |cons n d=>
   have j:=e n.ae (xK at_ n) (by have:=ah.gI n d;omega);have i:=e d at_ (by simp only[bo]at h;omega);have g:(xK at_ n).length<=at_.length+1:=by unfold xK;split<;>simp
   have f:=dN n;rw[uF,fJ];split
   ·rename_i r b;unfold bdN at b;have:r.2=xK at_ n:=by
     split at b
     ·cases b;rfl
     ·split at b
      ·cases b;rfl
      ·split at b
       ·cases b;rfl
       ·cases b
    rw[this];omega
   ·split<;>omega
noncomputable def ckS(l:M ah):Int×M z:=if tR jX uf l=I then uF l l [] else (1,[])
theorem ajm{l:M ah}(e:bQ aB l<=2000000):G 424 [az l]=Z (0,[.int .i64 (ckS l).1,aO (ckS l).2]):=by
 have c:=aiW (ip:=jX) (mt:=uf) (λt _=>aaM t) (λ_ _ _ h=>aaN h) (l:=l) (by simp only[mg];omega);obtain⟨j,i,b⟩:=ae3 _ e l [] (aY _) (by simp only[aJ];omega) e;have d:=Ut _ (l:=l) l [] (aY _);refine dd abj rfl ?_;unfold ckS;cases g:tR jX uf l<;>rw[g]at c
 ·rw[if_neg (by simp)];simp only[go_sem,abj,c,eo]
 ·rw[if_pos rfl];have f:aK (.app 1 16) [aO [],aO (uF l l []).2]=Z (aO (uF l l []).2):=acx (a:=[]) (by simp only[aJ]at *;omega);have b:G 423 [az l,az l,.list 1 I []]=_:=b;rcases i with rfl|rfl
  ·simp only[go_sem,abj,c,b,eo,f]
  ·simp only[go_sem,abj,c,b,eo,f]
theorem OY:(ckS []).1=0:=by
 have h:tR jX uf []=I:=by simp[tR,qP,eA,allI,dk]
 unfold ckS;rw[if_pos h,uF]
theorem aaz{l:M ah}{b:Nat}(h:b<=l.length):aK (.cut I) [az l,.int .i64 0,.int .i64 (b:Int)]=Z (az (l.take b)):=by
 have c:dI (.int .i64 0)=Z 0:=rfl;have a:dI (.int .i64 (b:Int))=Z b:=by simp[dI]
 simp only[aK,c,a,aj];rw[if_pos ⟨cB _,h⟩,cK,<- lI]
theorem Z8{c1 c2 c3:D}:∀(m:Nat) (l:M ah),l.length<=m->bQ aB l<=2000000->∃k,bK (lB G D5) (0,[c1,c2,c3,az l])=Z (0,[c1,c2,c3,az (l.take k)])/\(ckS (l.take k)).1=0:=by
 intro m
 induction m with
 |zero=>
  intro l h c;have:l=[]:=cG.1 (by omega);subst this;have f:=ajm (l:=[]) (by exact cB _);have a:=OY;rw[a]at f;refine⟨0,aF ?_,a⟩;simp only[go_sem,bn,D5,f,sd,List.take_nil]
 |succ m j=>
  intro l h c;have f:=ajm c;by_cases a:(ckS l).1=0
  ·refine⟨l.length,aF ?_,by rw[bN];exact a⟩;rw[a]at f;rw[bN];simp only[go_sem,bn,D5,f,sd]
  ·have i:l≠[]:=λe=>a (by rw[e];exact OY);have p:0 < l.length:=mK.2 i;have n:IntKind.i64.wrap ((l.length:Int) - 1)=((l.length - 1:Nat):Int):=by simp only[bQ]at c;rw[wrap_i64 (by omega)];omega
   have o:=aaz (l:=l) (b:=l.length - 1) (by omega);have q:bQ aB (l.take (l.length - 1))<=bQ aB l:=by
    have:=hY aB (l.take (l.length - 1)) (l.drop (l.length - 1));rw[bh]at this;omega
   obtain⟨k,g,d⟩:=j (l.take (l.length - 1)) (by rw[bj];omega) (by omega);rw[kP]at g d;refine⟨_,(bB ?_).trans g,d⟩;simp only[go_sem,bn,D5,f,sd,a,aj,n,o]
end
section
theorem LZ{d:M ah}{l:M aD}{x y:aD}(h:y∈qX d l x):y∈l\/y=x:=by
 unfold qX at h
 split at h
 ·rename_i a b hd
  split at h
  ·rcases aS.1 h with h|h
   ·exact .inl ((wJ _).subset h)
   ·rcases aP.1 h with h|h
    ·exact .inr h
    ·exact .inl ((List.dropWhile_suffix _).subset (hd▸h))
  ·exact .inl h
 ·rcases aS.1 h with h|h
  ·exact .inl ((wJ _).subset h)
  ·exact .inr (bI.1 h)
def afJ(d:M ah)(l:M aD)(j:Nat)(out:M aD)(ok:Bool):Prop:=((j=0/\ok=J/\out=[])\/(j=1/\ok=I))/\(∀y∈out,Kd d y)/\bQ bp out<=21 * bQ bp l
theorem kq(n:ah)(k:Nat)(a:Bool):aK (.has 7) [.list k a [aB n]]=Z (.bool J):=by
 rw[xQ,oh,if_pos (by decide)]
theorem rP:(7<=19)=True:=by simp
theorem se(a b:z):aK .pl [.str a,.str b]=Z (.bool J):=(rfl)
theorem oy(b:Bool):aK .pl [.bool b]=Z (.bool J):=(rfl)
theorem ov(l:M aD)(b:Bool):aK .LJ [aZ l,.bool b]=Z (.bool J):=(rfl)
theorem ab2{a b:z}{c:M aD}:bp ⟨a,b,c⟩=[.str a,.str b,aZ c]:=by rw[aT]
def HN(d:M ah)(l:M aD)(s:Nat×M D):Prop:=(∃a,bK (lB G gZ) s=Z (0,[.bool J,a]))\/
 (∃b c a,bK (lB G gZ) s=Z (1,[az d,aZ l,aZ b,c,.bool J,a])/\(∀y∈b,Kd d y)/\bQ bp b<=21 * bQ bp l)
theorem HN.go{d:M ah}{l:M aD}{s b:Nat×M D}(g:lB G gZ s=Z (.go b))(h:HN d l b):HN d l s:=by
 rcases h with ⟨a,h⟩|⟨c,e,a,h,i,f⟩
 ·exact .inl ⟨a,(bB g).trans h⟩
 ·exact .inr ⟨c,e,a,(bB g).trans h,i,f⟩
theorem ae4(c:Nat):∀(d:M ah) (l:M aD),av l < c->bQ aB d<=2000000->bQ bp l<=100000->
  ∃j out ok,G 431 [az d,aZ l]=Z (j,[aZ out,.bool ok])/\afJ d l j out ok:=by
 induction c with
 |zero=>intro d l h;omega
 |succ c ih=>
  intro d l hz hd hl;have Bz:l.length<=mg:=by simp only[bQ,mg]at *;omega
  have vK:d.length<=mg:=by simp only[bQ,mg]at *;omega
  have loop:∀m i (out:M aD) (a:D),i+m=l.length->(∀y∈out,Kd d y)->bQ bp out<=21 * bQ bp (l.take i)->
    HN d l (0,[az d,aZ l,aZ out,.int .i64 (i:Int),a]):=by
   intro m
   induction m with
   |zero=>
    intro i out a hm ho hs;have r:¬i < l.length:=by omega
    rw[gT (by omega)]at hs;refine .inr ⟨out,.int .i64 (i:Int),a,aF ?_,ho,hs⟩;simp only[go_sem,bn,gZ,aj,r]
   |succ m ihm=>
    intro i out a hm ho hs;have r:i < l.length:=by omega
    have hn:=dV (l:=l) (i:=i) r;generalize l[i]'r=x at hn;have C:=wj r Bz;have B:=pG hn;have GW:=eh bp (bz hn);have hxc:=jJ x;have YC:bQ bp (l.take (i+1))=bQ bp (l.take i)+fN (bp x)+1:=by
     rw[cx _ _ _ hn,hY,fJ];have:bQ bp []=0:=rfl;omega
    have ZH:bQ bp (l.take (i+1))<=bQ bp l:=by
     have:=hY bp (l.take (i+1)) (l.drop (i+1));rw[bh]at this;omega
    have p:=Xc (l:=d) (nm:=x.name_q) vK;cases hf:dh d x.name_q with
    |none=>
     rw[hf]at p;refine .inl ⟨a,aF ?_⟩;simp only[go_sem,bn,gZ,aj,r,B,aT,p,jG]
    |some k=>
     obtain⟨n,h1,h2⟩:=dy hf;rw[hf]at p;have F:¬(k:Int) < 0:=by omega
     have H:=Ij h1;have hns:=eh aB (bz h1);have Fl:=dN n;have PF:∀v N,Kd d ⟨x.name_q,v,N⟩:=λv N=>⟨k,hf⟩
     have put:∀(v:z) (N:M aD) (S:D),v.size+bQ bp N<=x.bq.size+21 * bQ bp x.ae+20->
       ∃b,G 351 ([az d,aZ out]++bp ⟨x.name_q,v,N⟩)=Z (0,[aZ (qX d out ⟨x.name_q,v,N⟩),.bool b])/\
       HN d l (0,[az d,aZ l,aZ (qX d out ⟨x.name_q,v,N⟩),.int .i64 ((i+1:Nat):Int),S]):=by
      intro v N S hvk;obtain⟨b,f⟩:=aje (d:=d) (l:=out) (x:=⟨x.name_q,v,N⟩) (by simp only[mg];omega) (by simp only[mg];omega) (by simp only[bQ,mg]at *;omega) ho (PF v N);refine⟨b,f,ihm (i+1) _ S (by omega) (λy hy=>?_) ?_⟩
      ·rcases LZ hy with h|rfl
       ·exact ho y h
       ·exact PF v N
      ·have L:=QC d out ⟨x.name_q,v,N⟩;have h4:=jJ ⟨x.name_q,v,N⟩;dsimp only at h4;omega
     have skip:∀S,HN d l (0,[az d,aZ l,aZ out,.int .i64 ((i+1:Nat):Int),S]):=λS=>ihm (i+1) out S (by omega) ho (by omega);have o:=aiU (ip:=jX) (mt:=uf) (λt _=>aaM t) (λ_ _ _ h=>aaN h) (t:=n.type) (s:=x.bq) (by simp only[mg];omega) (by simp only[mg];omega);have A:=q81 (l:=n.ae) (by simp only[mg];omega);have hdk:=nH (es:=n.ae);obtain⟨j4,T,ok4,R,Y⟩:=ih (dk n.ae) x.ae (by have:=aX (bz hn);have:=aD.ek x;omega) (by omega) (by omega);have go:∀{s':Nat×M D},lB G gZ (0,[az d,aZ l,aZ out,.int .i64 (i:Int),a])=Z (.go s')->HN d l s'->HN d l (0,[az d,aZ l,aZ out,.int .i64 (i:Int),a]):=λg h=>h.go g;have kl:=n.bl.length;have abP:n.bl.length<=mg:=yO (by simp only[mg];omega);simp only[ef,aq,ay]at o;obtain⟨vp,hp⟩:∃v,n.cT=v:=⟨_,rfl⟩
     by_cases VC:n.aw=3\/n.aw=4
     ·have leaf:∀(v:z) (ok:Bool),G 237 [.int .i64 n.type.aw,fH n.type.ranges,aO n.type.names,.str n.type.pattern,.str n.type.path,.str x.bq]=Z (0,[.str v,.bool ok])->v.size<=x.bq.size+20->HN d l (0,[az d,aZ l,aZ out,.int .i64 (i:Int),a]):=λv ok o hv=>by
       have e:=W7 (n:=n) (x:=⟨x.name_q,v,[]⟩) abP (by simp);obtain⟨bb,q,rest⟩:=put v [] a (by have:bQ bp []=0:=rfl;omega);simp only[ai,ab2,aq,ay]at e q;obtain⟨wh,W⟩:∃w,(keyOf n ⟨x.name_q,v,[]⟩).2=w:=⟨_,rfl⟩
       rw[W]at e;have e:G 244 _=_:=e;obtain⟨ke,V⟩:∃w,Z' (((x.ae.length:Nat):Int)=0)=w:=⟨_,rfl⟩
       have P:G 244 [.int .i64 n.aw,.str n.name_q,.int .i64 n.type.aw,fH n.type.ranges,aO n.type.names,.str n.type.pattern,.str n.type.path,aO n.bl,aO n.unique,.str n.default,.bool n.given,.bool n.fy,.bool n.cT,.bool n.fixed,.int .i64 n.min,.int .i64 n.max,dm n.when,dm n.iP,az n.ae,.str x.name_q,.str v,.list 3 J []]=Z (0,[aO (keyOf n ⟨x.name_q,v,[]⟩).1,.bool wh]):=e;have Pg:G 351 [az d,aZ out,.str x.name_q,.str v,.list 3 J []]=Z (0,[aZ (qX d out ⟨x.name_q,v,[]⟩),.bool bb]):=q;rcases VC with L|L
       ·have n1:¬(3:Int)=1:=by decide
        rw[L]at P;cases ok
        ·refine .inl ⟨a,aF ?_⟩;simp only[go_sem,rP,if_true,bn,gZ,aj,r,B,cR,aT x,p,jG,F,H,ba,kq,ai n,C,se,ov,oy,yv,L,o,P]
        ·cases ke
         ·refine .inl ⟨a,aF ?_⟩;simp only[go_sem,rP,if_true,bn,gZ,aj,r,B,cR,aT x,p,jG,F,H,ba,kq,ai n,C,se,ov,oy,yv,L,o,V,P]
         ·cases wh
          ·refine .inl ⟨a,aF ?_⟩;simp only[go_sem,rP,if_true,bn,gZ,aj,r,B,cR,aT x,p,jG,F,H,ba,kq,ai n,C,se,ov,oy,yv,L,o,V,P]
          ·cases bb
           ·refine .inl ⟨a,aF ?_⟩;simp only[go_sem,rP,if_true,bn,gZ,aj,r,B,cR,aT x,p,jG,F,H,ba,kq,ai n,C,se,ov,oy,yv,L,o,V,P,n1,Pg]
           ·refine go ?_ rest;simp only[go_sem,rP,if_true,bn,gZ,aj,r,B,cR,aT x,p,jG,F,H,ba,kq,ai n,C,se,ov,oy,yv,L,o,V,P,n1,Pg]
       ·have n1:¬(4:Int)=1:=by decide
        rw[L]at P;have K:¬(4:Int)=3:=by decide
        cases ok
        ·refine .inl ⟨a,aF ?_⟩;simp only[go_sem,rP,if_true,bn,gZ,aj,r,B,cR,aT x,p,jG,F,H,ba,kq,ai n,C,se,ov,oy,yv,L,K,o,P]
        ·cases ke
         ·refine .inl ⟨a,aF ?_⟩;simp only[go_sem,rP,if_true,bn,gZ,aj,r,B,cR,aT x,p,jG,F,H,ba,kq,ai n,C,se,ov,oy,yv,L,K,o,V,P]
         ·cases wh
          ·refine .inl ⟨a,aF ?_⟩;simp only[go_sem,rP,if_true,bn,gZ,aj,r,B,cR,aT x,p,jG,F,H,ba,kq,ai n,C,se,ov,oy,yv,L,K,o,V,P]
          ·cases bb
           ·refine .inl ⟨a,aF ?_⟩;simp only[go_sem,rP,if_true,bn,gZ,aj,r,B,cR,aT x,p,jG,F,H,ba,kq,ai n,C,se,ov,oy,yv,L,K,o,V,P,n1,Pg]
           ·refine go ?_ rest;simp only[go_sem,rP,if_true,bn,gZ,aj,r,B,cR,aT x,p,jG,F,H,ba,kq,ai n,C,se,ov,oy,yv,L,K,o,V,P,n1,Pg]
      cases hc:yn jX uf n.type x.bq with
      |none=>
       rw[hc]at o;exact leaf ⟨#[]⟩ J o (cB _)
      |some v=>
       rw[hc]at o;exact leaf v I o (Y2 hc)
     ·have K:¬n.aw=3:=λh=>VC (.inl h);have Q:¬n.aw=4:=λh=>VC (.inr h);have e:=W7 (n:=n) (x:=⟨x.name_q,oP,T⟩) abP (by have:=Y.2.2;simp only[bQ,mg]at *;omega);obtain⟨bb,q,rest⟩:=put oP T a (by have:=Y.2.2;have:oP.size=0:=rfl;omega);simp only[ai,ab2,aq,ay]at e q;obtain⟨wh,W⟩:∃w,(keyOf n ⟨x.name_q,oP,T⟩).2=w:=⟨_,rfl⟩
      rw[W]at e;obtain⟨ve,U⟩:∃w,Z' (x.bq=oP)=w:=⟨_,rfl⟩
      obtain⟨k1,MB⟩:∃w,Z' (n.aw=1)=w:=⟨_,rfl⟩
      obtain⟨oe,X⟩:∃w,Z' (((T.length:Nat):Int)=0)=w:=⟨_,rfl⟩
      obtain⟨hj,_⟩:=Y;have hd8:fH n.type.ranges=fH n.type.ranges:=rfl;rcases hj with ⟨rfl,rfl,rfl⟩|⟨rfl,rfl⟩
      ·refine .inl ⟨a,aF ?_⟩;simp only[go_sem,rP,if_true,bn,gZ,aj,r,B,cR,aT x,p,jG,F,H,ba,kq,ai n,C,se,ov,oy,yv,K,Q,A,R,e]
      ·cases ve
       ·refine .inl ⟨a,aF ?_⟩;simp only[go_sem,rP,if_true,bn,gZ,aj,r,B,cR,aT x,p,jG,F,H,ba,kq,ai n,C,se,ov,oy,yv,K,Q,A,R,U,e]
       ·cases wh
        ·refine .inl ⟨a,aF ?_⟩;simp only[go_sem,rP,if_true,bn,gZ,aj,r,B,cR,aT x,p,jG,F,H,ba,kq,ai n,C,se,ov,oy,yv,K,Q,A,R,U,e]
        ·cases k1
         ·cases bb
          ·refine .inl ⟨a,aF ?_⟩;simp only[go_sem,rP,if_true,bn,gZ,aj,r,B,cR,aT x,p,jG,F,H,ba,kq,ai n,C,se,ov,oy,yv,K,Q,A,R,U,e,MB,q]
          ·refine go ?_ rest;simp only[go_sem,rP,if_true,bn,gZ,aj,r,B,cR,aT x,p,jG,F,H,ba,kq,ai n,C,se,ov,oy,yv,K,Q,A,R,U,e,MB,q]
         ·cases vp<;>rw[hp]at e
          ·cases oe
           ·cases bb
            ·refine .inl ⟨a,aF ?_⟩;simp only[go_sem,rP,if_true,bn,gZ,aj,r,B,cR,aT x,p,jG,F,H,ba,kq,ai n,C,se,ov,oy,yv,K,Q,A,R,U,e,MB,hp,X,q]
            ·refine go ?_ rest;simp only[go_sem,rP,if_true,bn,gZ,aj,r,B,cR,aT x,p,jG,F,H,ba,kq,ai n,C,se,ov,oy,yv,K,Q,A,R,U,e,MB,hp,X,q]
           ·refine go ?_ (skip a);simp only[go_sem,rP,if_true,bn,gZ,aj,r,B,cR,aT x,p,jG,F,H,ba,kq,ai n,C,se,ov,oy,yv,K,Q,A,R,U,e,MB,hp,X,q]
          ·cases bb
           ·refine .inl ⟨a,aF ?_⟩;simp only[go_sem,rP,if_true,bn,gZ,aj,r,B,cR,aT x,p,jG,F,H,ba,kq,ai n,C,se,ov,oy,yv,K,Q,A,R,U,e,MB,hp,q]
           ·refine go ?_ rest;simp only[go_sem,rP,if_true,bn,gZ,aj,r,B,cR,aT x,p,jG,F,H,ba,kq,ai n,C,se,ov,oy,yv,K,Q,A,R,U,e,MB,hp,q]
  obtain⟨S,h⟩|⟨WM,i',S,h,h1,h2⟩:=loop l.length 0 [] (aZ []) (by omega) (λy hy=>by cases hy) (cB _)
  ·rw[n0]at h;refine⟨0,[],J,dd abk rfl ?_,.inl ⟨rfl,rfl,rfl⟩,(λy hy=>by cases hy),cB _⟩;have hm:aK (.mW 3 J) []=Z (aZ []):=rfl;simp only[go_sem,abk,hm,h];rfl
  ·rw[n0]at h;refine⟨1,WM,I,dd abk rfl ?_,.inr ⟨rfl,rfl⟩,h1,h2⟩;have hm:aK (.mW 3 J) []=Z (aZ []):=rfl;simp only[go_sem,abk,hm,h]
end
end Go.Proofs.YthlpjklbafakfaaGreatDoor
