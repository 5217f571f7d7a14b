/- Part of the proof: a machine over plain data, its proof, the functions of the program run on symbols, what they answer. Condition: none. -/
import Derived.Test.YtgfcijiikgjbcaaGreatDoorProg
import Derived.Shelf.RegionOpenPlain
import Derived.WalkKit
import Derived.Deep.LoopGhost
import Derived.Deep.RegionLaw
import Derived.Lib.Walk
import Derived.Lib.SliceRun
import Derived.Laws.IdiomCopy
import Derived.Lib.Overlaps
import Derived.Lib.AppendZerosOnto
import Derived.Laws.Externs
import Derived.Laws.NewBlocks
import Derived.Test.YtgfcijiikgjbcaaGreatDoorZz02
set_option linter.unusedVariables false
set_option linter.unusedSimpArgs false
open Array renaming length_toList->eU,toList_map->mL,getElem?_eq_getElem->mO,toArray_toList->yi
open List renaming length_cons->aG,append_nil->aJ,map_cons->aZ,length_append->a_,length_take->bj,take_length->bo,drop_length->bJ,mem_map->bZ,map_nil->cj,eq_nil_of_length_eq_zero->cq,length_eq_zero_iff->cP,getElem?_take->cQ,length_drop->dK,ext_getElem?->eE,mem_of_mem_drop->ff,getElem?_eq_getElem->fw,getElem?_drop->fK,take_append_of_le_length->gf,take_of_length_le->lj,take_take->mw,size_toArray->oz,length_set->qC
open Nat renaming le_refl->az,zero_add->bu,min_eq_left->cI,add_assoc->cO,add_zero->dx,lt_or_ge->dH,add_mul->ll,sub_mul->tY
open Option renaming some->Z,none->O
open Bool renaming true->I,false->J
namespace Go.Proofs.YtgfcijiikgjbcaaGreatDoor
section
open Go.RowKit Go.Lib Go.Shelf
theorem MA{P:Program}(w:World)(t e g:TypeId)(a:Value)(k:P.underlying t=Z (.slice e))(i:∀w,(zeroValue e).run P w=.ok a w)(b o n c:Nat)(d:M Value)(r:0 < n)(h:(Builtin.zeroCells a.cells n).toList=d)(q:∀v∈d,v.oneCell'=I)
  (p:∀j,j < d.length->(w.cell? ⟨b,o+j,O⟩).isSome=I) (l:∀j,j < d.length->w.frozen? ⟨b,o+j,O⟩=J) :
  (Builtin.clear_ #[t] g #[.slice (Z ⟨b,o,O⟩) n c]).run P w=.ok (.tuple #[]) (w.setCells b o d):=by
 have f:=run_storeCells_cells (P:=P) b o d 0 w (by simpa using p) (by simpa using l) q;simp only[dx]at f;obtain⟨m,rfl⟩:∃m,n=m+1:=⟨n - 1,by omega⟩
 simp[Builtin.clear_,run_underlying k,i,h,f]
set_option maxHeartbeats 4000000 in
set_option maxRecDepth 1000000 in
theorem Y4(w:World)(g off n c i j:Nat)(p:M Value)(N:p.length=n * 3)(G:∀t v,p[t]?=Z v->w.cell? ⟨g,off+t,O⟩=Z v)(D:∀t,w.frozen? ⟨g,off+t,O⟩=J)(Q:∀v∈p,v.oneCell'=I)
  (X:i < j) (hj:j<=n) (CB:n<=c) (af1:c<=9223372036854775807) :
  ∃k:M Value,k.length=(n - (i+(n - j))) * 3/\Calls Tryz.prog 93 #[.slice (Z ⟨g,off,O⟩) n c,.int .i64 i,.int .i64 j] w λe S=>e=.returned (.slice (Z ⟨g,off,O⟩) (i+(n - j)) c)/\S=(w.drew.setCells g (off+i * 3) (p.drop (j * 3))).setCells g (off+(i+(n - j)) * 3) k:=by
 obtain⟨b,P,x,y⟩:∃b:Value,(∀w,(zeroValue 67).run Tryz.prog w=.ok b w)/\b.cells.size=3/\∀i,(b.cells[i % 3]!).oneCell'=I:=⟨_,λw=>Tryz.zeroValue67 w,rfl,λi=>by
  have:i % 3=0\/i % 3=1\/i % 3=2:=by omega
  rcases this with h|h|h<;>rw[h]<;>rfl⟩
 obtain⟨k,C⟩:∃k,(Builtin.zeroCells b.cells (n - (i+(n - j)))).toList=k:=⟨_,rfl⟩
 have z3:k.length=(n - (i+(n - j))) * 3:=by
  rw[<- C];simp[Builtin.zeroCells,x]
 have z2:∀v∈k,v.oneCell'=I:=λv H=>by
  rw[<- C]at H;simp only[Builtin.zeroCells,x,mL,bZ]at H;obtain⟨q,_,rfl⟩:=H;exact y q
 refine⟨k,z3,?_⟩;have mixed:Tryz.prog.follows .mixedOrders=I:=by kernel_rfl
 obtain⟨d,s⟩:∃d,d=p.drop (j * 3):=⟨_,rfl⟩
 have f:d.length=(n - j) * 3:=by rw[s,dK,N,tY]
 obtain⟨A,hA,T⟩:∃A:Addr,(if c=j then Z (⟨g,off,O⟩:Addr) else Z ⟨g,off+j * 3,O⟩)=Z A/\Hid (∀t a,d[t]?=Z a->w.drew.cell? (A.add t)=Z a):=by
  by_cases h:c=j
  ·refine⟨⟨g,off,O⟩,by simp[h],λt a m=>?_⟩;have h0:d.length=0:=by rw[f];omega
   rw[cP.1 h0]at m;simp at m
  ·refine⟨⟨g,off+j * 3,O⟩,by simp[h],λt a m=>?_⟩;rw[Addr.add_lit,cO];rw[s,fK]at m;exact G _ a m
 have V:Hid (d.length=(n - j) * 3):=f;have U:Hid (∀a∈d,a.oneCell'=I):=λa m=>by rw[s]at m;exact Q a (ff m)
 have K:∀t,t < n * 3->(w.cell? ⟨g,off+t,O⟩).isSome=I:=λt l=>by rw[G t p[t] (by simp[N,l])];rfl
 have L:Hid (∀t,t < d.length->(w.drew.cell? ⟨g,off+i * 3+t,O⟩).isSome=I/\w.drew.frozen? ⟨g,off+i * 3+t,O⟩=J):=by
  intro t l;rw[f]at l;rw[cO];exact⟨K _ (by omega),D _⟩
 obtain⟨o,r⟩:∃o,o=w.drew.setCells g (off+i * 3) d:=⟨_,rfl⟩
 have B:∀t,t < n * 3->(o.cell? ⟨g,off+t,O⟩).isSome=I:=λt l=>by
  by_cases mD:i * 3<=t/\t < i * 3+d.length
  ·have:=World.cell?_setCells_in g d (off+i * 3) w.drew (λt l=>(L.out t l).1) (t - i * 3) (by omega);rw[show off+i * 3+(t - i * 3)=off+t by omega]at this;rw[r,this];simp
  ·rw[r,World.cell?_setCells_out g d (off+i * 3) w.drew ⟨g,off+t,O⟩ (λ_ _=>by show off+t < off+i * 3\/off+i * 3+d.length<=off+t;omega)];exact K t l
 have rH:∀F,(Builtin.clear_ #[26] F #[.slice (Z ⟨g,off+(i+(n - j)) * 3,O⟩) (n - (i+(n - j))) (c - (i+(n - j)))]).run Tryz.prog o=.ok (.tuple #[]) (o.setCells g (off+(i+(n - j)) * 3) k):=
  λF=>MA o _ _ F _ Tryz.underlying26 P g (off+(i+(n - j)) * 3) _ _ k (by omega) C z2 (λt l=>by rw[cO];exact B _ (by rw[z3]at l;omega)) (λt l=>by rw[r,World.frozen?_setCells,cO];exact D _)
 have hW:Hid (o=w.drew.setCells g (off+i * 3) d):=r;have Y:i<=c:=by omega
 have W:j<=c:=by omega
 rw[<- s,<- r];clear r G D Q P y C K B z2 z3 s f;have t26:=Tryz.underlying26;have a26:=Tryz.isAgg26;have R:=Tryz.sizeOf67
 go_enter Tryz.func93,Tryz.ntmps93
 go_wp2_with fail
 go_region_law_o (refine step_append_room rfl (.tmp 22) (.tmp 25) 26 rfl 67 Tryz.t67 3 Tryz.underlying26 rfl rfl g off i c (by simp[Act.eval,Act.put]) A (n - j) (c - j) d (by simp[Act.eval,Act.put]) V.out T.out U.out (by omega) L.out ?_;rw[<- hW.out])
 go_wp2
 go_ret
 exact⟨rfl,rfl⟩
theorem tP{P:Program}(w:World)(l q n elem:TypeId)(k b o e h:Nat)(a:Addr)(c f m:Nat)(d:M Value)(r:P.underlying l=Z (.slice elem))(y:∀w,(sizeOf elem).run P w=.ok k w)(t:Nat.min c e=m)(s:d.length=m * k)
  (p:∀j v,d[j]?=Z v->w.cell? (a.add j)=Z v) (B:∀j,j < d.length->(w.cell? ⟨b,o+j,O⟩).isSome=I) (A:∀j,j < d.length->w.frozen? ⟨b,o+j,O⟩=J) (C:∀v∈d,v.oneCell'=I) :
  (Builtin.copy_ #[l,q] n #[.slice (Z ⟨b,o,O⟩) e h,.slice (Z a) c f]).run P w=.ok (goInt m) (w.setCells b o d):=by
 have x:=run_firstCells_some (P:=P) w k m a c f d s p;have i:=run_storeCells_cells (P:=P) b o d 0 w (by simpa using B) (by simpa using A) C;simp only[dx]at i;have g:c.min e=m:=t;simp[Builtin.copy_,run_underlying r,y,Builtin.lenOf,g,x,i]
theorem rW{P:Program}(w:World){c:Array Oper}{rest:M Oper}{o:Oper}{a:Act}{Q:Exit->Act->World->Prop}(e:o.guard=O)(d s:Operand)(t i:TypeId)
  (l:o.op=.call {callee:=.builtin .copy,args:=#[d,s],argTypes:=#[t,i] }) (v b:Value) (hd:a.eval d=v) (j:a.eval s=b) {g:Value} {f:World}
  (k:(Builtin.copy_ #[t,i] o.type #[v,b]).run P w=.ok g f) (h:wpList P c Q rest (a.put o.dst g) f):wpList P c Q (o::rest) a w:=
 wpList_plain e λ_ m=>by
  unfold Oper.wp execOp;simp only[l,resolve,invoke,builtin,Sem.run_bind,Sem.run_pure,Result.andThen_ok,List.map_toArray,aZ,cj,hd,j,k];exact m _ _ h
theorem BX{P:Program}{e:Array Oper}{o:Oper}{a:Act}{w:World}{K:Act->World->Prop}{Q:Exit->Act->World->Prop}{c:Prop}
  (n:o.guard=O) (d x:Operand) (i h:TypeId) (j:o.op=Op.call {callee:=Callee.builtin Builtin.copy,args:=#[d,x],argTypes:=#[i,h] })
  (v b:Value) (hd:a.eval d=v) (k:a.eval x=b) {g:Value} {f:World} (m:(Builtin.copy_ #[i,h] o.type #[v,b]).run P w=.ok g f) (p:K (a.put o.dst g) f) :
  if Region.wanted o (yielded e a.tmps)=I then Oper.wp P o a w K Q else c:=by
 have l:Region.wanted o (yielded e a.tmps)=I:=by simp[Region.wanted,n]
 rw[if_pos l];unfold Oper.wp;simp[execOp,j,resolve,invoke,builtin,hd,k,m,Result.andThen];exact p
theorem MD(b:Nat)(a:M Value)(o:Nat)(w:World)(h:∀j,j < a.length->(w.cell? ⟨b,o+j,O⟩).isSome=I)(k:Nat)(c:(w.cell? ⟨b,k,O⟩).isSome=I):((w.setCells b o a).cell? ⟨b,k,O⟩).isSome=I:=by
 by_cases d:o<=k/\k < o+a.length
 ·have:=World.cell?_setCells_in b a o w h (k - o) (by omega);rw[show o+(k - o)=k by omega]at this;rw[this];rfl
 ·rw[World.cell?_setCells_out b a o w ⟨b,k,O⟩ (λ_ _=>by show k < o\/o+a.length<=k;omega)];exact c
theorem m26:Tryz.prog.follows .mixedOrders=I:=by kernel_rfl
set_option maxHeartbeats 4000000 in
set_option maxRecDepth 100000 in
theorem Wb(b off n c f g m i:Nat)(d:M Value)(w:World)(B:0 < m)(s:n+m<=c)(y:c<=9223372036854775807)(o:d.length=m * 3)(A:∀j,j < m * 3->(w.cell? ⟨b,off+n * 3+j,O⟩).isSome=I)(p:∀j,w.frozen? ⟨b,j,O⟩=J)
  (q:∀j v,d[j]?=Z v->w.cell? ⟨f,g+j,O⟩=Z v) (l:∀v∈d,v.oneCell'=I) :
  Calls Tryz.prog 157 #[.slice (Z ⟨b,off,O⟩) n c,.int .i64 n,.slice (Z ⟨f,g,O⟩) m i] w λe r=>e=.returned (.slice (Z ⟨b,off,O⟩) (n+m) c)/\r=w.setCells b (off+n * 3) d:=by
 have mixed:=m26;have x:¬((m:Int)=0):=by omega
 have t:∀k,(Builtin.append_ #[26,26] k #[.slice (Z ⟨b,off,O⟩) n c,.slice (Z ⟨f,g,O⟩) m i]).run Tryz.prog w=_:=λk=>
  run_append_room_cells w 26 k 67 Tryz.t67 Tryz.underlying26 rfl b off n c ⟨f,g,O⟩ m i d o (λj a h=>by rw[Addr.add_lit];exact q j a h) l s (λj h=>by rw[o]at h;exact A j h) (λj _=>p _)
 go_enter Tryz.func157,Tryz.ntmps157
 go_wp2_with (at_builtin;refine Lib.wpList_append_run _ rfl _ _ _ _ rfl _ _ rfl rfl _ _ (t _) ?_)
 all_goals (go_ret;exact⟨rfl,rfl⟩)
set_option maxHeartbeats 4000000 in
set_option maxRecDepth 100000 in
theorem Wa(base:u Addr)(n c h i m l:Nat)(g f:M Value)(w:World)(L:0 < m)(Q:n<=c)(s:c < n+m)(K:(n+m) * 56<=140737488355328)(D:g.length=n * 3)(B:f.length=m * 3)(k:base=O->n=0)
  (F:∀a,base=Z a->∀j v,g[j]?=Z v->w.cell? (a.add j)=Z v) (y:∀j v,f[j]?=Z v->w.cell? ⟨h,i+j,O⟩=Z v) (q:∀v∈f,v.oneCell'=I) :
  ∃b,Tryz.t67.zero=Z b/\Calls Tryz.prog 157 #[.slice base n c,.int .i64 n,.slice (Z ⟨h,i,O⟩) m l] w λe A=>e=.returned (.slice (Z ⟨w.heap.size,0,O⟩) (n+m) (grownCap w (n+m) c 67))/\
   A=w.drew.alloc (.cells ((g++f).toArray++Builtin.zeroCells b.cells (grownCap w (n+m) c 67 - (n+m))) 67):=by
 have mixed:=m26;have G:¬((m:Int)=0):=by omega
 obtain⟨b,x⟩:∃b,Tryz.t67.zero=Z b:=⟨_,rfl⟩
 refine⟨b,x,?_⟩;have C:Src Tryz.prog 3 26 (.slice (Z ⟨h,i,O⟩) m l) m f w:=Src.ofSlice w Tryz.underlying26 ⟨h,i,O⟩ m l f B (λj d p=>by rw[Addr.add_lit];exact y j d p) q;have hold:(Builtin.firstCells 3 n (.slice base n c)).run Tryz.prog w.drew=.ok g.toArray w.drew:=by
  cases base with
  |none=>
   have r:=k rfl;subst r;rw[cP.1 (by omega:g.length=0)];exact run_firstCells_none w.drew 3 0 0 c
  |some a=>exact run_firstCells_some w.drew 3 n a n c g D (λj v p=>F a rfl j v p)
 have t:∀o,(Builtin.append_ #[26,26] o #[.slice base n c,.slice (Z ⟨h,i,O⟩) m l]).run Tryz.prog w=_:=λo=>
  run_append_grow_src w 26 26 o 67 Tryz.t67 b Tryz.underlying26 rfl x base n c g hold _ m f C s (by omega) (growslice_fits s K)
 go_enter Tryz.func157,Tryz.ntmps157
 cases base with
 |none=>
  have r:=k rfl;subst r
  go_wp2_with (at_builtin;refine Lib.wpList_append_run _ rfl _ _ _ _ rfl _ _ rfl rfl _ _ (t _) ?_)
  all_goals (go_ret;exact⟨rfl,rfl⟩)
 |some a=>
  obtain⟨P,N,H⟩:=a
  go_wp2_with (at_builtin;refine Lib.wpList_append_run _ rfl _ _ _ _ rfl _ _ rfl rfl _ _ (t _) ?_)
  all_goals (go_ret;exact⟨rfl,rfl⟩)
set_option maxHeartbeats 4000000 in
set_option maxRecDepth 100000 in
theorem Sd(b off n c i a l m q:Nat)(f p:M Value)(w:World)(hi:i < n)(hm:0 < m)(nY:n+m<=c)(af1:c<=9223372036854775807)(r:a≠b)(rH:f.length=n * 3)(u9:p.length=m * 3)
  (qX:∀j v,f[j]?=Z v->w.cell? ⟨b,off+j,O⟩=Z v) (U:∀j,j < (n+m) * 3->(w.cell? ⟨b,off+j,O⟩).isSome=I) (V:∀j,w.frozen? ⟨b,j,O⟩=J)
  (wm:∀j v,p[j]?=Z v->w.cell? ⟨a,l+j,O⟩=Z v) (Q:∀v∈f,v.oneCell'=I) (P:∀v∈p,v.oneCell'=I)
  (Y X:TypeId) (kA kB:Nat) (F:w.shape? a=Z (Y,kA)) (D:w.shape? b=Z (X,kB)) (H:kB≠0) (L:w.frozen? ⟨a,l,O⟩=J) (K:w.frozen? ⟨a,kA,O⟩=J) :
  Calls Tryz.prog 157 #[.slice (Z ⟨b,off,O⟩) n c,.int .i64 i,.slice (Z ⟨a,l,O⟩) m q] w λe w'=>
   e=.returned (.slice (Z ⟨b,off,O⟩) (n+m) c)/\w'=(w.drew.setCells b (off+(i+m) * 3) (f.drop (i * 3))).setCells b (off+i * 3) p:=by
 have hz1:¬((m:Int)=0):=by omega
 have Qd:¬((i:Int)=(n:Int)):=by omega
 have G:∀C R,(callFunc 179 #[.slice (Z ⟨a,l,O⟩) m q,.slice (Z ⟨b,off+(i+m) * 3,O⟩) C R]).run Tryz.prog w=.ok (.value (.bool J)) w:=λC R=>by
  rw[run_callFunc_extern Tryz.func179 (by kernel_rfl) (by kernel_rfl) (by kernel_rfl) (e:=Extern.SlicesOverlaps.overlaps #[26,26] #[4]) (by kernel_rfl),
   Lib.run_overlaps_apart w 26 4 67 Tryz.underlying26 3 Tryz.sizeOf67 ⟨a,l,O⟩ ⟨b,off+(i+m) * 3,O⟩ m q C R r Y X kA kB F D H L K]
  rfl
 have qL:(f.drop (i * 3)).length=(n - i) * 3:=by rw[dK,rH,tY]
 have mixed:=m26;have hw1:IntKind.i64.wrap ((i:Int)+(m:Int))=(i:Int)+(m:Int):=by rw[IntKind.wrap_i64];omega
 have Ay:(0:Int)<=(i:Int)+(m:Int):=by omega
 have mD:i<=n:=by omega
 have htn:((i:Int)+(m:Int)).toNat=i+m:=by omega
 have CA:¬(c=i+m):=by omega
 have hb3:(i:Int)<=(n:Int)+(m:Int):=by omega
 have hb4:¬(c=i):=by omega
 have t:∀g o B,(Builtin.copy_ #[26,26] g #[.slice (Z ⟨b,off+(i+m) * 3,O⟩) (n+m - (i+m)) o,.slice (Z ⟨b,off+i * 3,O⟩) (n+m - i) B]).run Tryz.prog w.drew=.ok (goInt ((n - i:Nat):Int)) (w.drew.setCells b (off+(i+m) * 3) (f.drop (i * 3))):=λg o B=>
  tP w.drew _ _ g 67 3 b (off+(i+m) * 3) (n+m - (i+m)) o ⟨b,off+i * 3,O⟩ (n+m - i) B (n - i) (f.drop (i * 3)) Tryz.underlying26 Tryz.sizeOf67 (by simp only[Nat.min_def];split<;>omega) qL
   (λj v d=>by rw[Addr.add_lit,cO];exact qX (i * 3+j) v (by rwa [fK]at d))
   (λj d=>by rw[cO];exact U _ (by omega)) (λj d=>V _) (λv hv=>Q v (ff hv))
 obtain⟨y,A⟩:∃y,y=w.drew.setCells b (off+(i+m) * 3) (f.drop (i * 3)):=⟨_,rfl⟩
 have T:∀k,k < (n+m) * 3->(y.cell? ⟨b,off+k,O⟩).isSome=I:=λk hk=>by
  rw[A];exact MD b _ _ _ (λj d=>by rw[cO];exact U _ (by omega)) _ (U k hk)
 have S:∀(W:World),(∀x,W.cell? x=y.cell? x)->(∀x,W.frozen? x=y.frozen? x)->∀g o,(Builtin.copy_ #[26,26] g #[.slice (Z ⟨b,off+i * 3,O⟩) (n+m - i) o,.slice (Z ⟨a,l,O⟩) m q]).run Tryz.prog W=.ok (goInt m) (W.setCells b (off+i * 3) p):=λW s N g o=>
  tP W _ _ g 67 3 b (off+i * 3) (n+m - i) o ⟨a,l,O⟩ m q m p Tryz.underlying26 Tryz.sizeOf67 (by simp only[Nat.min_def];split<;>omega) u9
   (λj v d=>by
    rw[Addr.add_lit,s,A,World.cell?_setCells_out b _ _ _ _ (λh _=>absurd h r)];exact wm j v d)
   (λj d=>by rw[s,cO];exact T _ (by omega)) (λj d=>by rw[N,A,World.frozen?_setCells];exact V _) P
 rw[<- A]at t
 go_enter Tryz.func157,Tryz.ntmps157
 go_wp2_with (simp only[G])
 go_region_law_o (refine BX rfl _ _ 26 26 rfl _ _ (by simp[Act.eval,Act.put]) (by simp[Act.eval,Act.put]) (t _ _ _) ?_)
 go_wp2_with (at_builtin;refine rW _ rfl _ _ 26 26 rfl _ _ rfl rfl (S _ (λ_=>rfl) (λ_=>rfl) _ _) ?_)
 go_ret
 first|exact⟨rfl,rfl⟩|exact⟨rfl,by rw[A]⟩
set_option maxHeartbeats 4000000 in
set_option maxRecDepth 100000 in
theorem ZO(b off n c i r P m R:Nat)(g k:M Value)(w:World)(hi:i < n)(hm:0 < m)(CB:n<=c)(nY:c < n+m)(NZ:(n+m) * 56<=140737488355328)(rH:g.length=n * 3)(u9:k.length=m * 3)
  (T:∀j v,g[j]?=Z v->w.cell? ⟨b,off+j,O⟩=Z v) (wm:∀j v,k[j]?=Z v->w.cell? ⟨r,P+j,O⟩=Z v) (h1c:∀v∈g,v.oneCell'=I) (h1v:∀v∈k,v.oneCell'=I) :
  ∃(d:Array Value) (G:Nat),n+m<=G/\G<=maxLen/\d.size=G * 3/\(∀j,j < i * 3->d[j]?=g[j]?)/\Calls Tryz.prog 157 #[.slice (Z ⟨b,off,O⟩) n c,.int .i64 i,.slice (Z ⟨r,P,O⟩) m R] w λe w'=>
   e=.returned (.slice (Z ⟨w.heap.size,0,O⟩) (n+m) G)/\w'=(((w.alloc (.cells d 67)).drew.setCells w.heap.size (i * 3) k).drew).setCells w.heap.size ((i+m) * 3) (g.drop (i * 3)):=by
 obtain⟨a,hz⟩:∃a,Tryz.t67.zero=Z a:=⟨_,rfl⟩
 have Kq:a.cells.size=3:=by cases hz;rfl
 have hz1:¬((m:Int)=0):=by omega
 have Qd:¬((i:Int)=(n:Int)):=by omega
 have hz3:(c:Int) < (n:Int)+(m:Int):=by omega
 have F9:b < w.heap.size:=block_lt_of_cell (T 0 _ (fw (by omega)));have U:r < w.heap.size:=block_lt_of_cell (wm 0 _ (fw (by omega)));have um:(n:Int)+(m:Int) - (i:Int)=((n+m - i:Nat):Int):=by omega
 have y:i+(n+m - i)=n+m:=by omega
 have s:(g.take (i * 3)).length=i * 3:=by rw[bj,cI (by omega)]
 have hold:(Builtin.firstCells 3 i (.slice (Z ⟨b,off,O⟩) i c)).run Tryz.prog w.drew=.ok (g.take (i * 3)).toArray w.drew:=
  run_firstCells_some w.drew 3 i ⟨b,off,O⟩ i c (g.take (i * 3)) s (λj v f=>by
   rw[Addr.add_lit];rw[cQ]at f
   split at f
   ·exact T j v f
   ·cases f)
 have q:∀l,(Builtin.append_ #[26,3] l #[.slice (Z ⟨b,off,O⟩) i c,.int .i64 ((n:Int)+(m:Int) - (i:Int))]).run Tryz.prog w =
   .ok (.slice (Z ⟨w.heap.size,0,O⟩) (n+m) (grownCap w (n+m) c 67)) (w.drew.alloc (.cells ((g.take (i * 3)).toArray++Builtin.zeroCells a.cells (n+m - i)++Builtin.zeroCells a.cells (grownCap w (n+m) c 67 - (n+m))) 67)):=λl=>by
  have h:=Lib.run_append_grow_zeros w 26 3 l 67 Tryz.t67 a .i64 .i64 Tryz.underlying26 Tryz.underlying3 rfl hz (Z ⟨b,off,O⟩) i c (g.take (i * 3)) hold (n+m - i) (by omega) (by decide) (by omega) (by omega) (by show (n+m - i) * 56<=_;omega) (by rw[y];exact growslice_fits nY NZ);rw[y]at h;rw[um];exact h
 have L:n+m<=grownCap w (n+m) c 67:=grownCap_ge w _ _ _;have B:grownCap w (n+m) c 67<=maxLen:=grownCap_le_maxLen w (n+m) c 67 (by unfold maxLen;omega);obtain⟨G,hG⟩:∃G,G=grownCap w (n+m) c 67:=⟨_,rfl⟩
 obtain⟨d,Q⟩:∃d:Array Value,d=(g.take (i * 3)).toArray++Builtin.zeroCells a.cells (n+m - i)++Builtin.zeroCells a.cells (G - (n+m)):=⟨_,rfl⟩
 rw[<- hG]at q L B;rw[<- Q]at q;have F:d.size=G * 3:=by
  rw[Q];simp only[Builtin.zeroCells,Array.size_append,Array.size_map,Array.size_range,oz,s,Kq];omega
 have H:∀j,j < i * 3->d[j]?=g[j]?:=λj f=>by
  rw[Q,Array.append_assoc,Array.getElem?_append_left (by simp[s,f]),List.getElem?_toArray,cQ,if_pos f]
 refine⟨d,G,L,B,F,H,?_⟩;have mixed:=m26;obtain⟨p,D⟩:∃p,p=w.drew.alloc (.cells d 67):=⟨_,rfl⟩
 rw[<- D]at q;have hN:∀j,j < (n+m) * 3->(p.cell? ⟨w.heap.size,j,O⟩).isSome=I:=λj f=>by
  rw[D,World.cell?_alloc_at (w:=w.drew) d _ w.heap.size j rfl,mO (by omega)];rfl
 have K:∀j,p.frozen? ⟨w.heap.size,j,O⟩=J:=λj=>by rw[D];exact World.frozen?_alloc_at (w:=w.drew) d _ w.heap.size j rfl
 have Y:∀j v,w.cell? ⟨b,j,O⟩=Z v->p.cell? ⟨b,j,O⟩=Z v:=λj v h=>by rw[D,World.cell?_alloc_past (w:=w.drew) _ b j F9];exact h
 have X:∀j v,w.cell? ⟨r,j,O⟩=Z v->p.cell? ⟨r,j,O⟩=Z v:=λj v h=>by rw[D,World.cell?_alloc_past (w:=w.drew) _ r j U];exact h
 have ajF:∀(W:World),(∀x,W.cell? x=p.cell? x)->(∀x,W.frozen? x=p.frozen? x)->∀l C,(Builtin.copy_ #[26,26] l #[.slice (Z ⟨w.heap.size,i * 3,O⟩) (n+m - i) C,.slice (Z ⟨r,P,O⟩) m R]).run Tryz.prog W=.ok (goInt m) (W.setCells w.heap.size (i * 3) k):=λW o A l C=>
  tP W _ _ l 67 3 w.heap.size (i * 3) (n+m - i) C ⟨r,P,O⟩ m R m k Tryz.underlying26 Tryz.sizeOf67 (by simp only[Nat.min_def];split<;>omega) u9
   (λj v f=>by rw[Addr.add_lit,o];exact X _ v (wm j v f))
   (λj f=>by rw[o];exact hN _ (by omega)) (λj f=>by rw[A];exact K _) h1v
 have alX:G<=9223372036854775807:=by unfold maxLen at B;omega
 have hGi:¬(G=i):=by omega
 have alY:¬(G=i+m):=by omega
 have hci:¬(c=i):=by omega
 have V:b≠w.heap.size:=by omega
 have qL:(g.drop (i * 3)).length=(n - i) * 3:=by rw[dK,rH,tY]
 have N:∀(W:World),(∀x,W.cell? x=(p.setCells w.heap.size (i * 3) k).cell? x)->(∀x,W.frozen? x=(p.setCells w.heap.size (i * 3) k).frozen? x)->∀l C S,(Builtin.copy_ #[26,26] l #[.slice (Z ⟨w.heap.size,(i+m) * 3,O⟩) (n+m - (i+m)) C,.slice (Z ⟨b,off+i * 3,O⟩) (n - i) S]).run Tryz.prog W=.ok (goInt ((n - i:Nat):Int)) (W.setCells w.heap.size ((i+m) * 3) (g.drop (i * 3))):=λW o A l C S=>
  tP W _ _ l 67 3 w.heap.size ((i+m) * 3) (n+m - (i+m)) C ⟨b,off+i * 3,O⟩ (n - i) S (n - i) (g.drop (i * 3)) Tryz.underlying26 Tryz.sizeOf67 (by simp only[Nat.min_def];split<;>omega) qL
   (λj v f=>by
    rw[Addr.add_lit,o,World.cell?_setCells_out _ _ _ _ _ (λh _=>absurd h V),cO];exact Y _ v (T (i * 3+j) v (by rwa [fK]at f)))
   (λj f=>by rw[o];exact MD _ _ _ _ (λt ht=>hN _ (by omega)) _ (hN _ (by omega)))
   (λj f=>by rw[A,World.frozen?_setCells];exact K _) (λv hv=>h1c v (ff hv))
 subst D;have hE1:∀x,((w.alloc (.cells d 67)).drew).cell? x=(w.drew.alloc (.cells d 67)).cell? x:=λx=>rfl;have hE2:∀x,((w.alloc (.cells d 67)).drew).frozen? x=(w.drew.alloc (.cells d 67)).frozen? x:=λx=>rfl;have hF1:∀x,(((w.alloc (.cells d 67)).drew.setCells w.heap.size (i * 3) k).drew).cell? x=((w.drew.alloc (.cells d 67)).setCells w.heap.size (i * 3) k).cell? x:=λx=>rfl;have hF2:∀x,(((w.alloc (.cells d 67)).drew.setCells w.heap.size (i * 3) k).drew).frozen? x=((w.drew.alloc (.cells d 67)).setCells w.heap.size (i * 3) k).frozen? x:=λx=>rfl;have hw1:IntKind.i64.wrap ((i:Int)+(m:Int))=(i:Int)+(m:Int):=by rw[IntKind.wrap_i64];omega
 have Ay:(0:Int)<=(i:Int)+(m:Int):=by omega
 have mD:i<=n:=by omega
 have htn:((i:Int)+(m:Int)).toNat=i+m:=by omega
 have hb3:(i:Int)<=(n:Int):=by omega
 clear um y hold Q hG F H
 go_enter Tryz.func157,Tryz.ntmps157
 go_wp2_with (first
  |(at_builtin;refine Lib.wpList_append_run _ rfl _ _ _ _ rfl _ _ rfl rfl _ _ (q _) ?_)
  |(at_builtin;refine rW _ rfl _ _ 26 26 rfl _ _ rfl rfl (ajF _ hE1 hE2 _ _) ?_)
  |(at_builtin;refine rW _ rfl _ _ 26 26 rfl _ _ rfl rfl (N _ (λ_=>rfl) (λ_=>rfl) _ _ _) ?_))
 go_region_law_o (refine BX rfl _ _ 26 26 rfl (.slice (Z ⟨w.heap.size,(i+m) * 3,O⟩) (n+m - (i+m)) (G - (i+m))) (.slice (Z ⟨b,off+i * 3,O⟩) (n - i) (c - i)) (by simp[Act.eval,Act.put]) (by simp[Act.eval,Act.put]) (N _ hF1 hF2 3 (G - (i+m)) (c - i)) ?_)
 go_wp2
 go_ret
 exact⟨rfl,rfl⟩
theorem jI{g:Nat}{T:TypeId}:∀(b:M Value) {w:World} {a:M Value} (i:Nat),kJ w g T a->i+b.length<=a.length->w.setCells g i b=gF w g (.cells (cL a i b).toArray T (0,0))
 |[],w,a,i,h,c=>by
  have:cL a i []=a:=by simp[cL]
  rw[this,HV h];rfl
 |v::b,w,a,i,h,c=>by
  simp only[aG]at c;rw[World.setCells,BT h,jI b (i+1) (h.iB T _) (by rw[qC];omega),vQ _ _ _ _ (by omega),sN]
theorem ng(b:M Value)(i:Nat)(a:M Value)(h:i<=b.length):(cL b i a).take (i+a.length)=b.take i++a:=by
 unfold cL;rw[gf (by simp;omega),lj (by simp;omega)]
theorem Mm{g:Nat}{w a:World}(h:GB g w.drew a):GB g w a:=⟨h.os,h.tape,h.output,h.size,h.block,h.fz⟩
theorem Ur{B:Nat}{w a:World}(h:Bv B w.drew a):Bv B w a:=⟨⟨h.os,h.tape,h.output,h.size,h.block⟩,h.Gt⟩
theorem x9005:Pp Tryz.prog 93 J:=by
 intro w A n c a b m V h C U q W k Y B N8 P N o;rw[if_neg (by simp)]at o;obtain⟨Q,rfl,rfl⟩:=o;have S:C=[]:=cq (by omega);subst S;rcases N with ⟨rfl,rfl⟩|⟨g,T,d,rfl,hB,F,x⟩
 ·omega
 unfold maxLen at q;obtain⟨D,H,i⟩:=Y4 w g 0 n c a b h B (λt v j=>pS hB x t v j) (λt=>hB.frozen _) (λv j=>EV (P v (by simp[j]))) Q k U (by omega);refine i.mono λe X K=>?_;obtain⟨rfl,rfl⟩:=K;simp only[bu];have L:n * 3<=d.length:=by omega
 have G:(h.drop (b * 3)).length=(n - b) * 3:=by rw[dK,B,tY]
 have f:kJ w.drew g T d:=hB;rw[jI _ _ f (by omega)];have l:=f.iB T (cL d (a * 3) (h.drop (b * 3)));have y:(cL d (a * 3) (h.drop (b * 3))).length=d.length:=jO (by omega);rw[jI _ _ l (by omega),sN];have p:a+(n - b)=n - (b - a)+0:=by omega
 refine⟨g,c,T,_,by rw[p],by omega,q,f.iB T _,by rw[jO (by omega),y,F],?_,.inl ⟨rfl,Mm (GB.gF _ _ _ _)⟩⟩;rw[<- p,aJ];have R:=ng (cL d (a * 3) (h.drop (b * 3))) ((a+(n - b)) * 3) D (by omega);have s:=ng d (a * 3) (h.drop (b * 3)) (by omega);rw[G,<- ll]at s;have r:=congrArg (List.take ((a+(n - b)) * 3)) R;rw[mw,cI (by omega),gf (by rw[bj,y];omega),mw,Nat.min_self,s]at r;rw[r,<- x,mw,cI (by omega)]
theorem x9006:Pp Tryz.prog 157 I:=by
 intro w A n c a b m zv h f CB hc yn hbn YA F D h1 hA hz;rw[if_pos rfl]at hz;obtain⟨rfl,hm,q,cc,Tz,us,rfl,y,hul,hut,hmc,hqg⟩:=hz;unfold room at YA;have x:∀j v,f[j]?=Z v->w.cell? ⟨q,0+j,O⟩=Z v:=λj v p=>pS y hut j v p;have Y:∀v∈h,v.oneCell'=I:=λv p=>EV (h1 v (by simp[p]));have B:∀v∈f,v.oneCell'=I:=λv p=>EV (h1 v (by simp[p]));have hnn:n - (a - a)+m=n+m:=by omega
 rw[hnn];have ag5:∀{us:M Value} {o:World},kJ o w.heap.size 67 us->o.heap.size=w.heap.size+1->Bv w.heap.size w o->∀G,n+m<=G->G<=maxLen->us.length=G * 3->us.take ((n+m) * 3)=h.take (a * 3)++f++h.drop (a * 3)->
   ∃g' c' T' H,Ending.returned (.slice (Z ⟨w.heap.size,0,O⟩) (n+m) G)=.returned (.slice (Z ⟨g',0,O⟩) (n+m) c')/\n+m<=c'/\c'<=maxLen/\kJ o g' T' H/\H.length=c' * 3/\H.take ((n+m) * 3)=h.take (a * 3)++f++h.drop (a * 3)/\((A=Z ⟨g',0,O⟩/\GB g' w o)\/(g'=w.heap.size/\o.heap.size=w.heap.size+1/\Bv w.heap.size w o)):=
  λhB hs hb G h2 h3 h4 h5=>⟨_,G,67,_,rfl,h2,h3,hB,h4,h5,.inr ⟨rfl,hs,hb⟩⟩
 rcases dH c (n+m) with K|K
 ·
  rcases dH a n with r|r
  ·rcases hA with ⟨rfl,rfl⟩|⟨g,T,l,rfl,hB,u9,R⟩
   ·omega
   obtain⟨i,G,r1,r2,r3,r4,r5⟩:=ZO g 0 n c a q 0 m cc h f w r hm CB K YA F D (λt v p=>pS hB R t v p) x Y B;refine r5.mono λe o L=>?_;obtain⟨rfl,rfl⟩:=L;have s:kJ (w.alloc (.cells i 67)).drew w.heap.size 67 i.toList:=by
    have:=kJ.new w 67 i.toList;rw[yi]at this;exact this
   have qL:(h.drop (a * 3)).length=(n - a) * 3:=by rw[dK,F,tY]
   have hRl:i.toList.length=G * 3:=by rw[eU,r3]
   rw[jI _ _ s (by omega)];have Q:=s.iB 67 (cL i.toList (a * 3) f);have DL:(cL i.toList (a * 3) f).length=i.toList.length:=jO (by omega);have afW:kJ (gF (w.alloc (.cells i 67)).drew w.heap.size (.cells (cL i.toList (a * 3) f).toArray 67 (0,0))).drew w.heap.size 67 (cL i.toList (a * 3) f):=Q;rw[jI _ _ afW (by omega)];have hB2:=afW.iB 67 (cL (cL i.toList (a * 3) f) ((a+m) * 3) (h.drop (a * 3)));refine ag5 hB2 (by rw[gu];show (gF _ _ _).heap.size=_;rw[gu];exact size_alloc w _) (Rw (KG (vX w i 67).drew (KH _) (by show w.heap.size<=(w.alloc _).heap.size;rw[size_alloc];omega)) (by
    have W:=GB.gF (w.alloc (.cells i 67)).drew w.heap.size (cL i.toList (a * 3) f).toArray 67;have S:=GB.gF (gF (w.alloc (.cells i 67)).drew w.heap.size (.cells (cL i.toList (a * 3) f).toArray 67 (0,0))).drew w.heap.size (cL (cL i.toList (a * 3) f) ((a+m) * 3) (h.drop (a * 3))).toArray 67;exact⟨S.os.trans W.os,S.tape.trans W.tape,S.output.trans W.output,S.size.trans W.size,λk hk=>(S.block k hk).trans (W.block k hk),S.fz⟩) (az _)) G r1 r2 (by rw[jO (by omega),DL,hRl]) ?_
   have C:=ng (cL i.toList (a * 3) f) ((a+m) * 3) (h.drop (a * 3)) (by omega);have e2:=ng i.toList (a * 3) f (by omega);rw[qL,<- ll,show a+m+(n - a)=n+m by omega]at C;rw[D,<- ll]at e2;rw[C,e2]
   congr 2
   apply eE
   intro j;rw[cQ,cQ];split
   ·rw[Array.getElem?_toList];exact r4 j (by assumption)
   ·rfl
  ·have N:a=n:=by omega
   subst N;obtain⟨d,hz,r5⟩:=Wa A a c q 0 m cc h f w hm CB K YA F D (λhn=>by
     rcases hA with ⟨_,rfl⟩|⟨g,T,l,hg,_⟩
     ·omega
     ·rw[hn]at hg;cases hg) (λad X j v p=>by
     rcases hA with ⟨rfl,_⟩|⟨g,T,l,rfl,hB,u9,R⟩
     ·cases X
     ·cases X;rw[Addr.add_lit];exact pS hB R j v p) x B
   have Kq:d.cells.size=3:=by cases hz;rfl
   refine r5.mono λe o L=>?_;obtain⟨rfl,rfl⟩:=L;have hG1:=grownCap_ge w (a+m) c 67;have hG2:=grownCap_le_maxLen w (a+m) c 67 (by unfold maxLen;omega);have s:=kJ.new w.drew 67 ((h++f)++(Builtin.zeroCells d.cells (grownCap w (a+m) c 67 - (a+m))).toList);have he:((h++f)++(Builtin.zeroCells d.cells (grownCap w (a+m) c 67 - (a+m))).toList).toArray=(h++f).toArray++Builtin.zeroCells d.cells (grownCap w (a+m) c 67 - (a+m)):=by simp
   rw[he]at s;refine ag5 s (size_alloc _ _) (Ur (vX w.drew _ 67)) _ hG1 hG2 ?_ ?_
   ·simp only[a_,eU,Builtin.zeroCells,Array.size_map,Array.size_range,Kq,F,D];omega
   ·rw[gf (by simp;omega),lj (by simp;omega),<- F,bo,bJ,aJ]
 ·
  rcases hA with ⟨rfl,rfl⟩|⟨g,T,l,rfl,hB,u9,R⟩
  ·omega
  unfold maxLen at hc;have aj1:=hqg g rfl;have qL:(h.drop (a * 3)).length=(n - a) * 3:=by rw[dK,F,tY]
  have BI:∀j,j < c * 3->(w.cell? ⟨g,0+j,O⟩).isSome=I:=λj hj=>by rw[bu,hB.cell,fw (by omega)];rfl
  rcases dH a n with r|r
  ·have U:∀{g T l},kJ w g T l->w.shape? g=Z (T,l.length):=λ{g T l} hB=>by
    unfold kJ at hB;simp[World.shape?,hB]
   refine (Sd g 0 n c a q 0 m cc h f w r hm K (by omega) aj1 F D (λt v p=>pS hB R t v p) (λj hj=>BI j (by omega)) (λj=>hB.frozen _) x Y B _ _ _ _ (U y) (U hB) (by omega) (y.frozen _) (y.frozen _)).mono λe o L=>?_;obtain⟨rfl,rfl⟩:=L;simp only[bu];have P:kJ w.drew g T l:=hB;rw[jI _ _ P (by omega)];have Q:=P.iB T (cL l ((a+m) * 3) (h.drop (a * 3)));have DL:(cL l ((a+m) * 3) (h.drop (a * 3))).length=l.length:=jO (by omega);rw[jI _ _ Q (by omega),sN];refine⟨g,c,T,_,rfl,K,hc,P.iB T _,by rw[jO (by omega),DL,u9],?_,.inl ⟨rfl,Mm (GB.gF _ _ _ _)⟩⟩;have C:=ng l ((a+m) * 3) (h.drop (a * 3)) (by omega);rw[qL,<- ll,show a+m+(n - a)=n+m by omega]at C;generalize hV:cL l ((a+m) * 3) (h.drop (a * 3))=V at *;have e2:V.take (a * 3)=h.take (a * 3):=by
    have:=congrArg (List.take (a * 3)) C;rw[mw,cI (by omega),gf (by simp;omega),mw,cI (by omega)]at this;rw[this,<- R,mw,cI (by omega)]
   have e3:(V.drop ((a+m) * 3)).take ((n - a) * 3)=h.drop (a * 3):=by
    have:=congrArg (List.drop ((a+m) * 3)) C;rw[List.drop_take,List.drop_left' (by rw[bj];omega)]at this;rw[<- this]
    congr 1
    omega
   unfold cL;rw[D,show a * 3+m * 3=(a+m) * 3 by omega,List.take_append,lj (by simp;omega)];have e4:(V.take (a * 3)++f).length=(a+m) * 3:=by simp[D];omega
   rw[e4,show (n+m) * 3 - (a+m) * 3=(n - a) * 3 by omega,e3,e2]
  ·have N:a=n:=by omega
   subst N;refine (Wb g 0 a c q 0 m cc f w hm K (by omega) D (λj hj=>by rw[bu,show a * 3+j=0+(a * 3+j) by omega];exact BI _ (by omega)) (λj=>hB.frozen _) x B).mono λe o L=>?_;obtain⟨rfl,rfl⟩:=L;simp only[bu];rw[jI _ _ hB (by omega)];refine⟨g,c,T,_,rfl,K,hc,hB.iB T _,by rw[jO (by omega),u9],?_,.inl ⟨rfl,GB.gF _ _ _ _⟩⟩;have C:=ng l (a * 3) f (by omega);rw[D,<- ll,R]at C;rw[C,<- F,bo,bJ,aJ]
end
end Go.Proofs.YtgfcijiikgjbcaaGreatDoor
