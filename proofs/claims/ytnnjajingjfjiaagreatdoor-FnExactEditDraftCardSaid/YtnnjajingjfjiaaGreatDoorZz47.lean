/- Part of the proof: a machine over plain data, its proof, the functions of the program run on symbols, what they answer. Condition: none. -/
import Derived.Test.YtnnjajingjfjiaaGreatDoorZz19
import Derived.Test.YtnnjajingjfjiaaGreatDoorZz46
set_option linter.unusedVariables false
set_option linter.unusedSimpArgs false
set_option linter.unusedSectionVars false
open List renaming cons_append->au,nil_append->av,length_map->ay,length_cons->aH,length_nil->aJ,take_length->aR,take_zero->aV,length_take->aY,map_append->bN
open Nat renaming lt_irrefl->aC,le_add_right->mY
open Option renaming some->Z
open Bool renaming true->I,false->J
open Decidable renaming decide->Z'
namespace Go.Proofs.YtnnjajingjfjiaaGreatDoor
set_option maxRecDepth 100000
set_option maxHeartbeats 4000000
section
structure kK where
 tree:List az
 vby:Int
 vat:Int
def fE(x:kK):M D:=[aE x.tree,.int .i64 x.vby,.int .i64 x.vat]
abbrev gx(l:M kK):D:=.list 3 J (l.map fE)
structure qE where
 rj:List ah
 running:List az
 qK:List az
 owner:Int
 ya:List kK
 on:Bool
 wait:Int
 wby:Int
 Uf:ByteArray
 back:List az
def fm(x:qE):M D:=[aB x.rj,aE x.running,aE x.qK,.int .i64 x.owner,gx x.ya,.bool x.on,.int .i64 x.wait,.int .i64 x.wby,.str x.Uf,aE x.back]
theorem Dg(x:kK):ee (fE x)=bK aU x.tree:=by simp only[fE,ee,D.sz,ay,bK];omega
theorem mb(x:qE):ee (fm x)=bK ax x.rj+bK aU x.running+bK aU x.qK+bK fE x.ya+x.Uf.size+bK aU x.back:=by
 simp only[fm,ee,D.sz,ay,bK];omega
theorem Xz{l:M kK}{i:Nat}{y:kK}(h:nth l i=Z y):aZ (.el 3) [gx l,E (i:Int)]=Z (.list 0 J [fE y]):=by
 rw[mu,aX,h];rfl
theorem mkV(x:kK):aZ (.sV 3 J) (fE x)=Z (.list 3 J [fE x]):=jN 3 _ rfl (by decide)
theorem ahz{l:M kK}(h:l.length<=mg)(x:kK):aZ (.app 3 40) [gx l,.list 3 J [fE x]]=Z (gx (l++[x])):=by
 rw[eN 3 40 J _ _ (by decide) (by simp only[mg,ay,aH,aJ]at *;omega),gx,bN];rfl
theorem akJ(a b:Int):aZ .pl [E a,E b]=Z (.bool J):=(rfl)
theorem adV:aZ (.sV 3 J) []=Z (gx []):=(rfl)
theorem aiB(x:kK):aZ (.has 3) [.list 0 J [fE x]]=Z (.bool J):=(rfl)
theorem anI{l:M kK}(e:bK fE l<=mg):G 132 [gx l]=Z (0,[gx l]):=by
 have a:l.length<=mg:=by simp only[bK]at e;omega
 have h:=cN (b:=lB G KA) l (λi t=>(0,[gx l,E (i:Int),gx t])) (λi=>l.take i) (0,[gx l,E l.length,.bool J,gx l]) (by
  intro i x c;have f:=bp c;have m:=wj f a;have k:=Xz c;have d:=(fD e (bc c)).1;rw[Dg]at d;have o:=q2 d;have j:=mkV x;have g:=ahz (l:=l.take i) (by rw[aY];omega) x;have n:=akJ x.vby x.vat;rw[bZ _ _ _ c];generalize l.take i=t at *;simp only[fE]at k j g;simp only[go_sem,bG,KA,f,k,o,j,g,n,m]) (by simp only[go_sem,bG,KA,aC,aR]) l.length 0 (by omega)
 rw[n0,aV]at h;refine ct t132 rfl ?_;simp only[go_sem,t132,adV,h]
section
variable {st:qE} (hs:ee (fm st)<=mg)
include hs
theorem anJ:G 133 (fm st)=Z (0,fm st):=by
 rw[mb]at hs;have e:=q79 (l:=st.rj) (by omega);have d:=q2 (l:=st.running) (by omega);have c:=q2 (l:=st.qK) (by omega);have b:=anI (l:=st.ya) (by omega);have a:=q2 (l:=st.back) (by omega);refine ct t133 rfl ?_;simp only[go_sem,t133,fm,e,d,c,b,a]
theorem anP:G 142 (fm st)=Z (0,fm st):=by
 rw[mb]at hs;have d:=anO (l:=st.rj) (by omega);have s:=q1 (l:=st.running) (by omega);have r:=q1 (l:=st.qK) (by omega);have q:=q1 (l:=st.back) (by omega);have f:bK fE st.ya<=mg:=by omega
 have a:st.ya.length<=mg:=by simp only[bK]at f;omega
 have h:=cN (b:=lB G KH) st.ya (λi t=>(0,[gx st.ya,E st.ya.length,E (i:Int)]++fm st++[E 0,.bool J,E 0,E 0,.str kU,E st.owner,.bool st.on,E st.wait,E st.wby,.str st.Uf,aE st.back,gx t,aB st.rj,aE st.running,aE st.qK])) (λi=>st.ya.take i)
  (0,[gx st.ya,E st.ya.length,E st.ya.length,.bool J]++fm st++[E 0,.bool J,E 0,E 0,.str kU,E st.owner,.bool st.on,E st.wait,E st.wby,.str st.Uf,aE st.back,gx st.ya,aB st.rj,aE st.running,aE st.qK]) (by
  intro i x c;have g:=bp c;have o:=wj g a;have n:=Xz c;have e:=(fD f (bc c)).1;rw[Dg]at e;have d:=q1 e;have m:=mkV x;have k:=ahz (l:=st.ya.take i) (by rw[aY];omega) x;have p:=akJ x.vby x.vat;have j:=aiB x;rw[bZ _ _ _ c];generalize st.ya.take i=t at *;simp only[fE]at n m k j;simp only[go_sem,bG,KH,fm,g,n,d,m,k,p,j,o]) (by simp only[go_sem,bG,KH,fm,aC,aR]) st.ya.length 0 (by omega)
 rw[n0,aV]at h;simp only[fm,au,av]at h;refine ct t142 rfl ?_;simp only[go_sem,t142,fm,d,s,r,q,adV,dt,h]
end
def QW(st:qE)(n:Int):Bool:=Z' (1<=n) && (Z' (st.owner=0) ||decide (st.owner=n))
theorem anQ{st:qE}{n:Int}:G 167 (fm st++[E n])=Z (0,[.bool (QW st n)]):=by
 refine ct t167 rfl ?_;unfold QW;cases a:Z' (1<=n)
 ·simp +contextual -implicitDefEqProofs only [go_sem,eb,dY,dZ,uv,t167,fm,a]
 ·cases b:Z' (st.owner=0)
  ·simp +contextual -implicitDefEqProofs only [go_sem,eb,dY,dZ,uv,t167,fm,a,b]
  ·simp +contextual -implicitDefEqProofs only [go_sem,eb,dY,dZ,uv,t167,fm,a,b]
theorem anR{st:qE}{n:Int}:G 169 (fm st++[E n])=Z (0,[.bool (QW st n)]):=by
 refine ct t169 rfl ?_;unfold QW;cases a:Z' (1<=n)
 ·simp +contextual -implicitDefEqProofs only [go_sem,eb,dY,dZ,uv,t169,fm,a]
 ·cases b:Z' (st.owner=0)
  ·simp +contextual -implicitDefEqProofs only [go_sem,eb,dY,dZ,uv,t169,fm,a,b]
  ·simp +contextual -implicitDefEqProofs only [go_sem,eb,dY,dZ,uv,t169,fm,a,b]
noncomputable def Wm(st:qE)(n:Int)(es:M ck):qE×Int×Int:=if QW st n=I then ({st with qK:=(AI st.rj st.qK es).1 },0,(AI st.rj st.qK es).2) else (st,1,0)
theorem amk{st:qE}{n:Int}{es:M ck}:ee (fm (Wm st n es).1)<=ee (fm st)+zE es:=by
 unfold Wm;split
 ·have:=Ci (s:=st.rj) (l:=st.qK) (es:=es);rw[mb,mb];dsimp only;omega
 ·exact mY _ _
section
variable {st:qE} {n:Int} {es:M ck} (hs:ee (fm st)+zE es<=mg)
include hs
theorem ao2:G 382 (fm st++[E n,dm es])=Z (0,fm (Wm st n es).1++[E (Wm st n es).2.1,E (Wm st n es).2.2]):=by
 have b:=anJ (st:=st) (by omega);have a:=anQ (st:=st) (n:=n);have d:=agx (s:=st.rj) (l:=st.qK) (es:=es) (by rw[mb]at hs;omega) (by rw[mb]at hs;omega);simp only[fm,au,av]at b a;refine ct agT rfl ?_;unfold Wm;cases c:QW st n<;>rw[c]at a
 ·simp only[go_sem,agT,fm,b,a]
 ·simp only[go_sem,agT,fm,b,a,d]
theorem ao3:G 383 (fm st++[E n,dm es])=Z (0,fm (Wm st n es).1++[E (Wm st n es).2.1,E (Wm st n es).2.2]):=by
 have b:=anP (st:=st) (by omega);have a:=anR (st:=st) (n:=n);have d:=agA (s:=st.rj) (l:=st.qK) (es:=es) (by rw[mb]at hs;omega) (by rw[mb]at hs;omega);simp only[fm,au,av]at b a;refine ct agU rfl ?_;unfold Wm;cases c:QW st n<;>rw[c]at a
 ·simp only[go_sem,agU,fm,b,a]
 ·simp only[go_sem,agU,fm,b,a,d]
end
end
end Go.Proofs.YtnnjajingjfjiaaGreatDoor
