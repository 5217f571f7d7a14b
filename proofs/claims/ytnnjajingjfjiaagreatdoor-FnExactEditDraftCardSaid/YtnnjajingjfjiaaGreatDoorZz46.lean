/- Part of the proof: a machine over plain data, its proof, the functions of the program run on symbols, what they answer. Condition: none. -/
import Derived.Test.YtnnjajingjfjiaaGreatDoorZz18
set_option linter.unusedVariables false
set_option linter.unusedSimpArgs false
set_option linter.unusedSectionVars false
open Int renaming toNat_natCast->bW,lt_irrefl->fy
open List renaming nil_append->av,length_map->ay,length_cons->aH,length_nil->aJ,append_nil->aK,take_length->aR,take_zero->aV,map_cons->aW,length_take->aY,sizeOf_lt_of_mem->bj,drop_zero->bm,map_nil->bD,drop_length->bE,map_append->bN,getElem?_append_right->cY,isEmpty_nil->g_,isEmpty_cons->iG,map_set->rK
open Nat renaming lt_irrefl->aC,le_trans->aG,lt_succ_self->aP,min_eq_left->cE,sub_self->mZ
open Option renaming map_some->aQ,some->Z
open SizeOf renaming sizeOf->aw
open Bool renaming true->I,false->J
namespace Go.Proofs.YtnnjajingjfjiaaGreatDoor
set_option maxRecDepth 100000
set_option maxHeartbeats 4000000
section
theorem adT:aZ (.sV 1 I) []=Z (.list 1 I []):=(rfl)
theorem adU:aZ (.sV 2 I) []=Z (.list 2 I []):=(rfl)
theorem anK{t:gK}(a:ee (ew t)<=mg):G 135 (ew t)=Z (0,ew t):=by
 rw[rn]at a;have c:=eN 2 16 I [] (t.ranges.map k9) (by decide) (by simp only[bK,mg,ay,aJ]at *;omega);have b:=eN 1 16 I [] (t.names.map fe) (by decide) (by simp only[bK,mg,ay,aJ]at *;omega);refine ct t135 rfl ?_;simp only[go_sem,t135,ew,c,b,adT,adU]
def mr(s:pN):pN:=⟨s.aj,[]⟩
theorem ajK(a:z):aZ (.sV 2 J) [.str a,.list 2 I []]=Z (.list 2 J [iO ⟨a,[]⟩]):=by simp[aZ,chunk,iO]
theorem ads{l:M pN}(h:l.length<=mg)(x:pN):aZ (.app 2 40) [dU l,.list 2 J [iO x]]=Z (dU (l++[x])):=by
 rw[eN 2 40 J _ _ (by decide) (by simp only[mg,ay,aH,aJ]at *;omega),dU,bN];rfl
theorem apj(x:pN):aZ (.has 2) [.list 0 J [iO x]]=Z (.bool J):=(rfl)
theorem J3{l:M pN}{i:Nat}{y:pN}(h:nth l i=Z y):aZ (.el 2) [dU l,E (i:Int)]=Z (.list 0 J [iO y]):=by
 rw[mu,aX,h];rfl
theorem ad6(a:z):aZ .pl [.str a]=Z (.bool J):=(rfl)
theorem anL{p:nG}(o:p.steps.length<=mg):G 136 (ib p)=Z (0,ib ⟨p.root,p.oY,p.steps.map mr⟩):=by
 refine ct t136 rfl ?_;have c:=uw (b:=lB G BU) p.steps mr (λi=>(0,[dU p.steps,E p.steps.length,E (i:Int),.bool J,E 0,.bool p.root,E p.oY]))
  (λi a=>(1,[dU p.steps,E p.steps.length,E (i:Int),.bool J,E 0,.bool p.root,E p.oY,dU a]))
  (0,[dU p.steps,E p.steps.length,E 0,.bool J,.bool J,E 0,.bool p.root,E p.oY])
  (λa=>(1,[dU p.steps,E p.steps.length,E p.steps.length,.bool J,.bool J,E 0,.bool p.root,E p.oY,dU a])) (by
   intro e f;have g:=bp f;have n:=wj g o;have k:=J3 f;have j:=ajK e.aj;have d:=ads (l:=[]) (by simp[mg]) ⟨e.aj,[]⟩;have hd:dU []=.list 2 J []:=rfl;rw[hd,av]at d;simp only[iO]at k j d;simp only[go_sem,bG,BU,g,k,j,d,ad6,n,mr]) (by
   intro i e f q;have g:=bp f;have n:=wj g o;have k:=J3 f;have j:=ajK e.aj;have d:=ads (l:=(p.steps.take i).map mr) (by simp only[ay,aY];omega) ⟨e.aj,[]⟩;simp only[iO]at k j d;simp only[go_sem,bG,BU,g,k,j,d,ad6,n,mr]) (by
   intro h;simp only[go_sem,bG,BU,h,aJ,n0,fy]) (by
   intro h;simp only[go_sem,bG,BU,aC])
 rw[n0]at c;cases m:p.steps with
 |nil=>
  rw[m]at c;simp only[go_sem,g_,if_true,aJ,n0]at c;simp only[go_sem,t136,ib,m,bD,aJ,n0,c];rfl
 |cons s l=>
  rw[m]at c;simp only[go_sem,iG]at c;simp only[go_sem,t136,ib,m,c]
theorem anM{p:nG}(d:ee (ib p)<=mg):G 137 (ib p)=Z (0,ib p):=by
 rw[A4]at d;have a:p.steps.length<=mg:=by simp only[bK]at d;omega
 have f:=anL a;rw[ib,ib]at f;dsimp only at f;have h:=cN (b:=lB G KB) p.steps (λi t=>(0,[dU p.steps,E p.steps.length,E (i:Int),.bool J,E 0,.bool p.root,E p.oY,dU t])) (λi=>p.steps.take i++(p.steps.drop i).map mr)
  (0,[dU p.steps,E p.steps.length,E p.steps.length,.bool J,.bool J,E 0,.bool p.root,E p.oY,dU p.steps]) (by
  intro i e c;have j:=bp c;have n:=wj j a;have r:=J3 c;have m:=(fD d (bc c)).1;rw[xg]at m;have l:=eN 2 32 I [] (e.gu.map pP) (by decide) (by simp only[bK,mg,ay,aJ]at *;omega);rw[av]at l;have hd:(p.steps.drop i).map mr=mr e::(p.steps.drop (i+1)).map mr:=by rw[eg p.steps i e c,aW]
  have o:=EX p.steps (mr e) ((p.steps.drop (i+1)).map mr) i e c;have g:nth (p.steps.take i++mr e::(p.steps.drop (i+1)).map mr) i=Z (mr e):=by
   rw[ef,cY (by simp;omega),aY,cE (by omega),mZ];rfl
  rw[hd];generalize p.steps.take i++mr e::(p.steps.drop (i+1)).map mr=t at *;have q:=jd 2 J (t.map iO) i (by rw[ay];exact bp g);have k:aZ (.set 1) [dU t,E (i:Int),jv e.gu]=Z (dU (t.set i e)):=by
   simp only[aZ,bW,aX,g,aQ,gG,aH,aJ];rw[if_pos ⟨by omega,by simp⟩];show _=Z (D.list 2 J ((t.set i e).map iO));rw[rK];rfl
  rw[o]at k;simp only[go_sem,bG,KB,j,r,iO,adU,l,q,k,ZE,n]) (by simp only[go_sem,bG,KB,aC,aR,bE,bD,aK]) p.steps.length 0 (by omega)
 rw[n0,aV,bm,av]at h;refine ct t137 rfl ?_;simp only[go_sem,t137,ib,f,h]
theorem ajL(x:dv):aZ (.sV 7 J) (cu x)=Z (.list 7 J [cu x]):=jN 7 _ (qu x) (by decide)
theorem adt{l:M dv}(h:l.length<=mg)(x:dv):aZ (.app 7 96) [cZ l,.list 7 J [cu x]]=Z (cZ (l++[x])):=by
 rw[eN 7 96 J _ _ (by decide) (by simp only[mg,ay,aH,aJ]at *;omega),cZ,bN];rfl
theorem ajM:aZ (.sV 7 J) []=Z (cZ []):=(rfl)
theorem plX(x:dv):aZ .pl [E x.op,E x.num,.str x.text,.bool x.path.root,E x.path.oY]=Z (.bool J):=(rfl)
theorem XA{l:M dv}{i:Nat}{y:dv}(h:nth l i=Z y):aZ (.el 7) [cZ l,E (i:Int)]=Z (.list 0 J [cu y]):=by
 rw[mu,aX,h];rfl
theorem afT(n:Nat):∀e:dv,aw e < n->ee (cu e)<=mg->G 138 (cu e)=Z (0,cu e):=by
 induction n with
 |zero=>intro e h;omega
 |succ n r=>
  intro e w d;have c:e.aa.length<=mg:=aG tH d;have y:=pn e;have g:=anM (p:=e.path) (by omega);rw[ib]at g;have h:=cN (b:=lB G KC) e.aa (λi t=>(0,[cZ e.aa,E e.aa.length,E (i:Int),E e.op,E e.num,.str e.text,.bool e.path.root,E e.path.oY,cZ e.aa,E 0,E 0,.str kU,.bool J,E 0,cZ t,dU e.path.steps])) (λi=>e.aa.take i)
   (0,[cZ e.aa,E e.aa.length,E e.aa.length,.bool J,E e.op,E e.num,.str e.text,.bool e.path.root,E e.path.oY,cZ e.aa,E 0,E 0,.str kU,.bool J,E 0,cZ e.aa,dU e.path.steps]) (by
   intro i x a;have f:=bp a;have s:=wj f c;have q:=XA a;have o:=r x (by have:=dv.BQ (bc a);omega) (aG (BR (bc a)) d);have m:=ajL x;have k:=adt (l:=e.aa.take i) (by rw[aY];omega) x;have v:=plX x;have j:=jY x 0 J;rw[bZ _ _ _ a];generalize e.aa.take i=t at *;rw[bT x]at q o m k j;simp only[go_sem,bG,KC,f,q,j,o,m,k,v,s]) (by simp only[go_sem,bG,KC,aC,aR]) e.aa.length 0 (by omega)
  rw[n0,aV]at h;refine ct t138 (by rw[bT];rfl) ?_;simp only[go_sem,t138,bT e,g,ajM,dt,h]
theorem anN{e:dv}(a:ee (cu e)<=mg):G 138 (cu e)=Z (0,cu e):=afT _ e (aP _) a
theorem akN{es:M dv}(d:bK cu es<=mg):G 139 [cZ es]=Z (0,[cZ es]):=by
 have a:es.length<=mg:=by simp only[bK]at d;omega
 have h:=cN (b:=lB G KE) es (λi t=>(0,[cZ es,E es.length,E (i:Int),cZ t])) (λi=>es.take i) (0,[cZ es,E es.length,E es.length,.bool J,cZ es]) (by
  intro i x c;have e:=bp c;have n:=wj e a;have m:=XA c;have k:=anN (fD d (bc c)).1;have j:=ajL x;have g:=adt (l:=es.take i) (by rw[aY];omega) x;have o:=plX x;have f:=jY x 0 J;rw[bZ _ _ _ c];generalize es.take i=t at *;rw[bT x]at m k j g f;simp only[go_sem,bG,KE,e,m,f,k,j,g,o,n]) (by simp only[go_sem,bG,KE,aC,aR]) es.length 0 (by omega)
 rw[n0,aV]at h;refine ct t139 rfl ?_;simp only[go_sem,t139,ajM,h]
theorem acH{e:ah}(c:ee (ax e)<=mg)(d:G 141 [aB e.aa]=Z (0,[aB e.aa])):G 140 (ax e)=Z (0,ax e):=by
 have b:=c;rw[dO]at b;have a:=anK (t:=e.type) (by omega);rw[ew]at a;have i:=eN 1 16 I [] (e.a_.map fe) (by decide) (by simp only[bK,mg,ay,aJ]at *;omega);have h:=eN 1 16 I [] (e.unique.map fe) (by decide) (by simp only[bK,mg,ay,aJ]at *;omega);have g:=akN (es:=e.when) (by omega);have f:=akN (es:=e.jy) (by omega);refine ct t140 (by rw[af];rfl) ?_;simp only[go_sem,t140,af e,a,i,h,g,f,d,adT]
theorem ani:aZ (.sV 19 J) []=Z (aB []):=(rfl)
theorem ahy{l:M ah}(h:l.length<=mg)(x:ah):aZ (.app 19 272) [aB l,.list 19 J [ax x]]=Z (aB (l++[x])):=by
 rw[aee _ _ (by rw[ay];exact h),aB,bN];rfl
theorem aet{l:M ah}{i:Nat}{y:ah}(h:nth l i=Z y):aZ (.el 19) [aB l,E (i:Int)]=Z (.list 0 J [ax y]):=by
 rw[mu,aX,h];rfl
theorem afU(n:Nat):∀l:M ah,aw l < n->bK ax l<=mg->G 141 [aB l]=Z (0,[aB l]):=by
 induction n with
 |zero=>intro l h;omega
 |succ n p=>
  intro l v e;have c:l.length<=mg:=by simp only[bK]at e;omega
  have h:=cN (b:=lB G KG) l (λi t=>(0,[aB l,E l.length,E (i:Int),aB t])) (λi=>l.take i) (0,[aB l,E l.length,E l.length,.bool J,aB l]) (by
   intro i x a;have f:=bp a;have q:=wj f c;have d:ee (ax x)<=mg:=(fD e (bc a)).1;have r:=p x.aa (by have:=bj (bc a);have:=ah.dL x;omega) (aG (eh x) d);have o:=aet a;have m:=acH d r;have k:=mkS x;have j:=ahy (l:=l.take i) (by rw[aY];omega) x;have s:=plS x;have g:=eX x 0 J;rw[bZ _ _ _ a];generalize l.take i=t at *;rw[af x]at o m k j g;simp only[go_sem,bG,KG,f,o,g,m,k,j,s,q]) (by simp only[go_sem,bG,KG,aC,aR]) l.length 0 (by omega)
  rw[n0,aV]at h;refine ct t141 rfl ?_;simp only[go_sem,t141,ani,h]
theorem anO{l:M ah}(a:bK ax l<=mg):G 141 [aB l]=Z (0,[aB l]):=afU _ l (aP _) a
end
end Go.Proofs.YtnnjajingjfjiaaGreatDoor
