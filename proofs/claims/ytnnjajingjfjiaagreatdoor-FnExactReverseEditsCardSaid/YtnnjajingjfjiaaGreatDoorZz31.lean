/- Part of the proof: a machine over plain data, its proof, the functions of the program run on symbols, what they answer. Condition: none. -/
import Derived.Test.YtnnjajingjfjiaaGreatDoorProg
import Derived.Shelf.RegionOpenPlain
import Derived.WalkKit
import Derived.Deep.LoopGhost
import Derived.Deep.RegionLaw
import Derived.Lib.Walk
import Derived.Lib.SliceRun
import Derived.Laws.IdiomCopy
import Derived.Lib.Overlaps
import Derived.Lib.AppendZerosOnto
import Derived.Laws.Externs
import Derived.Laws.NewBlocks
import Derived.Test.YtnnjajingjfjiaaGreatDoorZz02
set_option linter.unusedVariables false
set_option linter.unusedSimpArgs false
open Array renaming length_toList->eQ,toList_map->mP,getElem?_eq_getElem->mV,toArray_toList->zq
open List renaming length_cons->aH,append_nil->aK,take_length->aR,map_cons->aW,length_take->aY,length_append->bh,map_nil->bD,drop_length->bE,mem_map->cj,eq_nil_of_length_eq_zero->cy,length_eq_zero_iff->cH,getElem?_take->cS,length_drop->dH,ext_getElem?->eE,mem_of_mem_drop->fc,getElem?_eq_getElem->fu,getElem?_drop->fI,take_append_of_le_length->fT,take_of_length_le->je,take_take->mA,size_toArray->oQ,length_set->rz,take->zD
open Nat renaming le_refl->aD,zero_add->bo,add_zero->cd,min_eq_left->cE,add_assoc->cQ,lt_or_ge->dD,add_mul->lu,sub_mul->vg
open Option renaming some->Z,none->O
open Bool renaming true->I,false->J
namespace Go.Proofs.YtnnjajingjfjiaaGreatDoor
section
open Go.RowKit Go.Lib Go.Shelf
theorem OU{P:Program}(w:World)(t e g:TypeId)(a:Value)(k:P.underlying t=Z (.slice e))(i:∀w,(zeroValue e).run P w=.ok a w)(b o n c:Nat)(d:M Value)(r:0 < n)(h:(Builtin.zeroCells a.cells n).toList=d)(q:∀v∈d,v.oneCell'=I)
  (p:∀j,j < d.length->(w.cell? ⟨b,o+j,O⟩).isSome=I) (l:∀j,j < d.length->w.frozen? ⟨b,o+j,O⟩=J) :
  (Builtin.clear_ #[t] g #[.slice (Z ⟨b,o,O⟩) n c]).run P w=.ok (.tuple #[]) (w.setCells b o d):=by
 have f:=run_storeCells_cells (P:=P) b o d 0 w (by simpa using p) (by simpa using l) q;simp only[cd]at f;obtain⟨m,rfl⟩:∃m,n=m+1:=⟨n - 1,by omega⟩
 simp[Builtin.clear_,run_underlying k,i,h,f]
set_option maxHeartbeats 4000000 in
set_option maxRecDepth 1000000 in
theorem aa6(w:World)(g off n c i j:Nat)(p:M Value)(N:p.length=n * 3)(G:∀t v,p[t]?=Z v->w.cell? ⟨g,off+t,O⟩=Z v)(D:∀t,w.frozen? ⟨g,off+t,O⟩=J)(Q:∀v∈p,v.oneCell'=I)
  (X:i < j) (hj:j<=n) (DU:n<=c) (aiD:c<=9223372036854775807) :
  ∃k:M Value,k.length=(n - (i+(n - j))) * 3/\Calls Tryz.prog 172 #[.slice (Z ⟨g,off,O⟩) n c,.int .i64 i,.int .i64 j] w λe S=>e=.returned (.slice (Z ⟨g,off,O⟩) (i+(n - j)) c)/\S=(w.drew.setCells g (off+i * 3) (p.drop (j * 3))).setCells g (off+(i+(n - j)) * 3) k:=by
 obtain⟨b,P,s,x⟩:∃b:Value,(∀w,(zeroValue 99).run Tryz.prog w=.ok b w)/\b.cells.size=3/\∀i,(b.cells[i % 3]!).oneCell'=I:=⟨_,λw=>Tryz.zeroValue99 w,rfl,λi=>by
  have:i % 3=0\/i % 3=1\/i % 3=2:=by omega
  rcases this with h|h|h<;>rw[h]<;>rfl⟩
 obtain⟨k,C⟩:∃k,(Builtin.zeroCells b.cells (n - (i+(n - j)))).toList=k:=⟨_,rfl⟩
 have z3:k.length=(n - (i+(n - j))) * 3:=by
  rw[<- C];simp[Builtin.zeroCells,s]
 have z2:∀v∈k,v.oneCell'=I:=λv H=>by
  rw[<- C]at H;simp only[Builtin.zeroCells,s,mP,cj]at H;obtain⟨q,_,rfl⟩:=H;exact x q
 refine⟨k,z3,?_⟩;have mixed:Tryz.prog.follows .mixedOrders=I:=by kernel_rfl
 obtain⟨d,B⟩:∃d,d=p.drop (j * 3):=⟨_,rfl⟩
 have f:d.length=(n - j) * 3:=by rw[B,dH,N,vg]
 obtain⟨A,hA,T⟩:∃A:Addr,(if c=j then Z (⟨g,off,O⟩:Addr) else Z ⟨g,off+j * 3,O⟩)=Z A/\Hid (∀t a,d[t]?=Z a->w.drew.cell? (A.add t)=Z a):=by
  by_cases h:c=j
  ·refine⟨⟨g,off,O⟩,by simp[h],λt a m=>?_⟩;have h0:d.length=0:=by rw[f];omega
   rw[cH.1 h0]at m;simp at m
  ·refine⟨⟨g,off+j * 3,O⟩,by simp[h],λt a m=>?_⟩;rw[Addr.add_lit,cQ];rw[B,fI]at m;exact G _ a m
 have V:Hid (d.length=(n - j) * 3):=f;have U:Hid (∀a∈d,a.oneCell'=I):=λa m=>by rw[B]at m;exact Q a (fc m)
 have K:∀t,t < n * 3->(w.cell? ⟨g,off+t,O⟩).isSome=I:=λt l=>by rw[G t p[t] (by simp[N,l])];rfl
 have L:Hid (∀t,t < d.length->(w.drew.cell? ⟨g,off+i * 3+t,O⟩).isSome=I/\w.drew.frozen? ⟨g,off+i * 3+t,O⟩=J):=by
  intro t l;rw[f]at l;rw[cQ];exact⟨K _ (by omega),D _⟩
 obtain⟨o,r⟩:∃o,o=w.drew.setCells g (off+i * 3) d:=⟨_,rfl⟩
 have y:∀t,t < n * 3->(o.cell? ⟨g,off+t,O⟩).isSome=I:=λt l=>by
  by_cases mG:i * 3<=t/\t < i * 3+d.length
  ·have:=World.cell?_setCells_in g d (off+i * 3) w.drew (λt l=>(L.out t l).1) (t - i * 3) (by omega);rw[show off+i * 3+(t - i * 3)=off+t by omega]at this;rw[r,this];simp
  ·rw[r,World.cell?_setCells_out g d (off+i * 3) w.drew ⟨g,off+t,O⟩ (λ_ _=>by show off+t < off+i * 3\/off+i * 3+d.length<=off+t;omega)];exact K t l
 have pS:∀F,(Builtin.clear_ #[29] F #[.slice (Z ⟨g,off+(i+(n - j)) * 3,O⟩) (n - (i+(n - j))) (c - (i+(n - j)))]).run Tryz.prog o=.ok (.tuple #[]) (o.setCells g (off+(i+(n - j)) * 3) k):=
  λF=>OU o _ _ F _ Tryz.underlying29 P g (off+(i+(n - j)) * 3) _ _ k (by omega) C z2 (λt l=>by rw[cQ];exact y _ (by rw[z3]at l;omega)) (λt l=>by rw[r,World.frozen?_setCells,cQ];exact D _)
 have hW:Hid (o=w.drew.setCells g (off+i * 3) d):=r;have Y:i<=c:=by omega
 have W:j<=c:=by omega
 rw[<- B,<- r];clear r G D Q P x C K y z2 z3 B f;have t26:=Tryz.underlying29;have a26:=Tryz.isAgg29;have R:=Tryz.sizeOf99
 go_enter Tryz.func172,Tryz.ntmps172
 go_wp2_with fail
 go_region_law_o (refine step_append_room rfl (.tmp 22) (.tmp 25) 29 rfl 99 Tryz.t99 3 Tryz.underlying29 rfl rfl g off i c (by simp[Act.eval,Act.put]) A (n - j) (c - j) d (by simp[Act.eval,Act.put]) V.out T.out U.out (by omega) L.out ?_;rw[<- hW.out])
 go_wp2
 go_ret
 exact⟨rfl,rfl⟩
theorem u5{P:Program}(w:World)(l q p elem:TypeId)(k b o e h:Nat)(a:Addr)(c f m:Nat)(d:M Value)(r:P.underlying l=Z (.slice elem))(y:∀w,(sizeOf elem).run P w=.ok k w)(t:Nat.min c e=m)(s:d.length=m * k)
  (n:∀j v,d[j]?=Z v->w.cell? (a.add j)=Z v) (B:∀j,j < d.length->(w.cell? ⟨b,o+j,O⟩).isSome=I) (A:∀j,j < d.length->w.frozen? ⟨b,o+j,O⟩=J) (C:∀v∈d,v.oneCell'=I) :
  (Builtin.copy_ #[l,q] p #[.slice (Z ⟨b,o,O⟩) e h,.slice (Z a) c f]).run P w=.ok (goInt m) (w.setCells b o d):=by
 have x:=run_firstCells_some (P:=P) w k m a c f d s n;have i:=run_storeCells_cells (P:=P) b o d 0 w (by simpa using B) (by simpa using A) C;simp only[cd]at i;have g:c.min e=m:=t;simp[Builtin.copy_,run_underlying r,y,Builtin.lenOf,g,x,i]
theorem td{P:Program}(w:World){c:Array Oper}{rest:M Oper}{o:Oper}{a:Act}{Q:Exit->Act->World->Prop}(e:o.guard=O)(d s:Operand)(t i:TypeId)
  (l:o.op=.call {callee:=.builtin .copy,args:=#[d,s],argTypes:=#[t,i] }) (v b:Value) (hd:a.eval d=v) (j:a.eval s=b) {g:Value} {f:World}
  (k:(Builtin.copy_ #[t,i] o.type #[v,b]).run P w=.ok g f) (h:wpList P c Q rest (a.put o.dst g) f):wpList P c Q (o::rest) a w:=
 wpList_plain e λ_ m=>by
  unfold Oper.wp execOp;simp only[l,resolve,invoke,builtin,Sem.run_bind,Sem.run_pure,Result.andThen_ok,List.map_toArray,aW,bD,hd,j,k];exact m _ _ h
theorem Dc{P:Program}{e:Array Oper}{o:Oper}{a:Act}{w:World}{K:Act->World->Prop}{Q:Exit->Act->World->Prop}{c:Prop}
  (n:o.guard=O) (d x:Operand) (i h:TypeId) (j:o.op=Op.call {callee:=Callee.builtin Builtin.copy,args:=#[d,x],argTypes:=#[i,h] })
  (v b:Value) (hd:a.eval d=v) (k:a.eval x=b) {g:Value} {f:World} (m:(Builtin.copy_ #[i,h] o.type #[v,b]).run P w=.ok g f) (p:K (a.put o.dst g) f) :
  if Region.wanted o (yielded e a.tmps)=I then Oper.wp P o a w K Q else c:=by
 have l:Region.wanted o (yielded e a.tmps)=I:=by simp[Region.wanted,n]
 rw[if_pos l];unfold Oper.wp;simp[execOp,j,resolve,invoke,builtin,hd,k,m,Result.andThen];exact p
theorem OW(b:Nat)(a:M Value)(o:Nat)(w:World)(h:∀j,j < a.length->(w.cell? ⟨b,o+j,O⟩).isSome=I)(k:Nat)(c:(w.cell? ⟨b,k,O⟩).isSome=I):((w.setCells b o a).cell? ⟨b,k,O⟩).isSome=I:=by
 by_cases d:o<=k/\k < o+a.length
 ·have:=World.cell?_setCells_in b a o w h (k - o) (by omega);rw[show o+(k - o)=k by omega]at this;rw[this];rfl
 ·rw[World.cell?_setCells_out b a o w ⟨b,k,O⟩ (λ_ _=>by show k < o\/o+a.length<=k;omega)];exact c
theorem m26:Tryz.prog.follows .mixedOrders=I:=by kernel_rfl
set_option maxHeartbeats 4000000 in
set_option maxRecDepth 100000 in
theorem YP(b off n c f g m i:Nat)(d:M Value)(w:World)(A:0 < m)(s:n+m<=c)(x:c<=9223372036854775807)(o:d.length=m * 3)(y:∀j,j < m * 3->(w.cell? ⟨b,off+n * 3+j,O⟩).isSome=I)(p:∀j,w.frozen? ⟨b,j,O⟩=J)
  (q:∀j v,d[j]?=Z v->w.cell? ⟨f,g+j,O⟩=Z v) (l:∀v∈d,v.oneCell'=I) :
  Calls Tryz.prog 233 #[.slice (Z ⟨b,off,O⟩) n c,.int .i64 n,.slice (Z ⟨f,g,O⟩) m i] w λe r=>e=.returned (.slice (Z ⟨b,off,O⟩) (n+m) c)/\r=w.setCells b (off+n * 3) d:=by
 have mixed:=m26;have B:¬((m:Int)=0):=by omega
 have t:∀k,(Builtin.append_ #[29,29] k #[.slice (Z ⟨b,off,O⟩) n c,.slice (Z ⟨f,g,O⟩) m i]).run Tryz.prog w=_:=λk=>
  run_append_room_cells w 29 k 99 Tryz.t99 Tryz.underlying29 rfl b off n c ⟨f,g,O⟩ m i d o (λj a h=>by rw[Addr.add_lit];exact q j a h) l s (λj h=>by rw[o]at h;exact y j h) (λj _=>p _)
 go_enter Tryz.func233,Tryz.ntmps233
 go_wp2_with (at_builtin;refine Lib.wpList_append_run _ rfl _ _ _ _ rfl _ _ rfl rfl _ _ (t _) ?_)
 all_goals (go_ret;exact⟨rfl,rfl⟩)
set_option maxHeartbeats 4000000 in
set_option maxRecDepth 100000 in
theorem YO(base:u Addr)(n c h i m l:Nat)(g f:M Value)(w:World)(K:0 < m)(Q:n<=c)(s:c < n+m)(H:(n+m) * 56<=140737488355328)(F:g.length=n * 3)(A:f.length=m * 3)(k:base=O->n=0)
  (D:∀a,base=Z a->∀j v,g[j]?=Z v->w.cell? (a.add j)=Z v) (y:∀j v,f[j]?=Z v->w.cell? ⟨h,i+j,O⟩=Z v) (q:∀v∈f,v.oneCell'=I) :
  ∃b,Tryz.t99.zero=Z b/\Calls Tryz.prog 233 #[.slice base n c,.int .i64 n,.slice (Z ⟨h,i,O⟩) m l] w λe B=>e=.returned (.slice (Z ⟨w.heap.size,0,O⟩) (n+m) (grownCap w (n+m) c 99))/\
   B=w.drew.alloc (.cells ((g++f).toArray++Builtin.zeroCells b.cells (grownCap w (n+m) c 99 - (n+m))) 99):=by
 have mixed:=m26;have P:¬((m:Int)=0):=by omega
 obtain⟨b,x⟩:∃b,Tryz.t99.zero=Z b:=⟨_,rfl⟩
 refine⟨b,x,?_⟩;have C:Src Tryz.prog 3 29 (.slice (Z ⟨h,i,O⟩) m l) m f w:=Src.ofSlice w Tryz.underlying29 ⟨h,i,O⟩ m l f A (λj d p=>by rw[Addr.add_lit];exact y j d p) q;have hold:(Builtin.firstCells 3 n (.slice base n c)).run Tryz.prog w.drew=.ok g.toArray w.drew:=by
  cases base with
  |none=>
   have r:=k rfl;subst r;rw[cH.1 (by omega:g.length=0)];exact run_firstCells_none w.drew 3 0 0 c
  |some a=>exact run_firstCells_some w.drew 3 n a n c g F (λj v p=>D a rfl j v p)
 have t:∀o,(Builtin.append_ #[29,29] o #[.slice base n c,.slice (Z ⟨h,i,O⟩) m l]).run Tryz.prog w=_:=λo=>
  run_append_grow_src w 29 29 o 99 Tryz.t99 b Tryz.underlying29 rfl x base n c g hold _ m f C s (by omega) (growslice_fits s H)
 go_enter Tryz.func233,Tryz.ntmps233
 cases base with
 |none=>
  have r:=k rfl;subst r
  go_wp2_with (at_builtin;refine Lib.wpList_append_run _ rfl _ _ _ _ rfl _ _ rfl rfl _ _ (t _) ?_)
  all_goals (go_ret;exact⟨rfl,rfl⟩)
 |some a=>
  obtain⟨N,L,G⟩:=a
  go_wp2_with (at_builtin;refine Lib.wpList_append_run _ rfl _ _ _ _ rfl _ _ rfl rfl _ _ (t _) ?_)
  all_goals (go_ret;exact⟨rfl,rfl⟩)
set_option maxHeartbeats 4000000 in
set_option maxRecDepth 100000 in
theorem U9(b off n c i a l m q:Nat)(f p:M Value)(w:World)(hi:i < n)(hm:0 < m)(ow:n+m<=c)(aiD:c<=9223372036854775807)(r:a≠b)(pS:f.length=n * 3)(wz:p.length=m * 3)
  (rX:∀j v,f[j]?=Z v->w.cell? ⟨b,off+j,O⟩=Z v) (U:∀j,j < (n+m) * 3->(w.cell? ⟨b,off+j,O⟩).isSome=I) (V:∀j,w.frozen? ⟨b,j,O⟩=J)
  (xw:∀j v,p[j]?=Z v->w.cell? ⟨a,l+j,O⟩=Z v) (Q:∀v∈f,v.oneCell'=I) (P:∀v∈p,v.oneCell'=I)
  (Y X:TypeId) (kA kB:Nat) (F:w.shape? a=Z (Y,kA)) (D:w.shape? b=Z (X,kB)) (H:kB≠0) (L:w.frozen? ⟨a,l,O⟩=J) (K:w.frozen? ⟨a,kA,O⟩=J) :
  Calls Tryz.prog 233 #[.slice (Z ⟨b,off,O⟩) n c,.int .i64 i,.slice (Z ⟨a,l,O⟩) m q] w λe w'=>
   e=.returned (.slice (Z ⟨b,off,O⟩) (n+m) c)/\w'=(w.drew.setCells b (off+(i+m) * 3) (f.drop (i * 3))).setCells b (off+i * 3) p:=by
 have Dt:¬((m:Int)=0):=by omega
 have S9:¬((i:Int)=(n:Int)):=by omega
 have G:∀C R,(callFunc 250 #[.slice (Z ⟨a,l,O⟩) m q,.slice (Z ⟨b,off+(i+m) * 3,O⟩) C R]).run Tryz.prog w=.ok (.value (.bool J)) w:=λC R=>by
  rw[run_callFunc_extern Tryz.func250 (by kernel_rfl) (by kernel_rfl) (by kernel_rfl) (e:=Extern.SlicesOverlaps.overlaps #[29,29] #[4]) (by kernel_rfl),
   Lib.run_overlaps_apart w 29 4 99 Tryz.underlying29 3 Tryz.sizeOf99 ⟨a,l,O⟩ ⟨b,off+(i+m) * 3,O⟩ m q C R r Y X kA kB F D H L K]
  rfl
 have qw:(f.drop (i * 3)).length=(n - i) * 3:=by rw[dH,pS,vg]
 have mixed:=m26;have hw1:IntKind.i64.wrap ((i:Int)+(m:Int))=(i:Int)+(m:Int):=by rw[IntKind.wrap_i64];omega
 have BH:(0:Int)<=(i:Int)+(m:Int):=by omega
 have mG:i<=n:=by omega
 have htn:((i:Int)+(m:Int)).toNat=i+m:=by omega
 have DS:¬(c=i+m):=by omega
 have hb3:(i:Int)<=(n:Int)+(m:Int):=by omega
 have hb4:¬(c=i):=by omega
 have t:∀g o B,(Builtin.copy_ #[29,29] g #[.slice (Z ⟨b,off+(i+m) * 3,O⟩) (n+m - (i+m)) o,.slice (Z ⟨b,off+i * 3,O⟩) (n+m - i) B]).run Tryz.prog w.drew=.ok (goInt ((n - i:Nat):Int)) (w.drew.setCells b (off+(i+m) * 3) (f.drop (i * 3))):=λg o B=>
  u5 w.drew _ _ g 99 3 b (off+(i+m) * 3) (n+m - (i+m)) o ⟨b,off+i * 3,O⟩ (n+m - i) B (n - i) (f.drop (i * 3)) Tryz.underlying29 Tryz.sizeOf99 (by simp only[Nat.min_def];split<;>omega) qw
   (λj v d=>by rw[Addr.add_lit,cQ];exact rX (i * 3+j) v (by rwa [fI]at d))
   (λj d=>by rw[cQ];exact U _ (by omega)) (λj d=>V _) (λv hv=>Q v (fc hv))
 obtain⟨y,A⟩:∃y,y=w.drew.setCells b (off+(i+m) * 3) (f.drop (i * 3)):=⟨_,rfl⟩
 have T:∀k,k < (n+m) * 3->(y.cell? ⟨b,off+k,O⟩).isSome=I:=λk hk=>by
  rw[A];exact OW b _ _ _ (λj d=>by rw[cQ];exact U _ (by omega)) _ (U k hk)
 have S:∀(W:World),(∀x,W.cell? x=y.cell? x)->(∀x,W.frozen? x=y.frozen? x)->∀g o,(Builtin.copy_ #[29,29] g #[.slice (Z ⟨b,off+i * 3,O⟩) (n+m - i) o,.slice (Z ⟨a,l,O⟩) m q]).run Tryz.prog W=.ok (goInt m) (W.setCells b (off+i * 3) p):=λW s N g o=>
  u5 W _ _ g 99 3 b (off+i * 3) (n+m - i) o ⟨a,l,O⟩ m q m p Tryz.underlying29 Tryz.sizeOf99 (by simp only[Nat.min_def];split<;>omega) wz
   (λj v d=>by
    rw[Addr.add_lit,s,A,World.cell?_setCells_out b _ _ _ _ (λh _=>absurd h r)];exact xw j v d)
   (λj d=>by rw[s,cQ];exact T _ (by omega)) (λj d=>by rw[N,A,World.frozen?_setCells];exact V _) P
 rw[<- A]at t
 go_enter Tryz.func233,Tryz.ntmps233
 go_wp2_with (simp only[G])
 go_region_law_o (refine Dc rfl _ _ 29 29 rfl _ _ (by simp[Act.eval,Act.put]) (by simp[Act.eval,Act.put]) (t _ _ _) ?_)
 go_wp2_with (at_builtin;refine td _ rfl _ _ 29 29 rfl _ _ rfl rfl (S _ (λ_=>rfl) (λ_=>rfl) _ _) ?_)
 go_ret
 first|exact⟨rfl,rfl⟩|exact⟨rfl,by rw[A]⟩
set_option maxHeartbeats 4000000 in
set_option maxRecDepth 100000 in
theorem abF(b off n c i s Q m R:Nat)(g k:M Value)(w:World)(hi:i < n)(hm:0 < m)(DU:n<=c)(ow:c < n+m)(Qy:(n+m) * 56<=140737488355328)(pS:g.length=n * 3)(wz:k.length=m * 3)
  (T:∀j v,g[j]?=Z v->w.cell? ⟨b,off+j,O⟩=Z v) (xw:∀j v,k[j]?=Z v->w.cell? ⟨s,Q+j,O⟩=Z v) (h1c:∀v∈g,v.oneCell'=I) (h1v:∀v∈k,v.oneCell'=I) :
  ∃(d:Array Value) (G:Nat),n+m<=G/\G<=maxLen/\d.size=G * 3/\(∀j,j < i * 3->d[j]?=g[j]?)/\Calls Tryz.prog 233 #[.slice (Z ⟨b,off,O⟩) n c,.int .i64 i,.slice (Z ⟨s,Q,O⟩) m R] w λe w'=>
   e=.returned (.slice (Z ⟨w.heap.size,0,O⟩) (n+m) G)/\w'=(((w.alloc (.cells d 99)).drew.setCells w.heap.size (i * 3) k).drew).setCells w.heap.size ((i+m) * 3) (g.drop (i * 3)):=by
 obtain⟨a,hz⟩:∃a,Tryz.t99.zero=Z a:=⟨_,rfl⟩
 have Mz:a.cells.size=3:=by cases hz;rfl
 have Dt:¬((m:Int)=0):=by omega
 have S9:¬((i:Int)=(n:Int)):=by omega
 have hz3:(c:Int) < (n:Int)+(m:Int):=by omega
 have HN:b < w.heap.size:=block_lt_of_cell (T 0 _ (fu (by omega)));have U:s < w.heap.size:=block_lt_of_cell (xw 0 _ (fu (by omega)));have wo:(n:Int)+(m:Int) - (i:Int)=((n+m - i:Nat):Int):=by omega
 have A:i+(n+m - i)=n+m:=by omega
 have y:(g.take (i * 3)).length=i * 3:=by rw[aY,cE (by omega)]
 have hold:(Builtin.firstCells 3 i (.slice (Z ⟨b,off,O⟩) i c)).run Tryz.prog w.drew=.ok (g.take (i * 3)).toArray w.drew:=
  run_firstCells_some w.drew 3 i ⟨b,off,O⟩ i c (g.take (i * 3)) y (λj v f=>by
   rw[Addr.add_lit];rw[cS]at f
   split at f
   ·exact T j v f
   ·cases f)
 have q:∀l,(Builtin.append_ #[29,3] l #[.slice (Z ⟨b,off,O⟩) i c,.int .i64 ((n:Int)+(m:Int) - (i:Int))]).run Tryz.prog w =
   .ok (.slice (Z ⟨w.heap.size,0,O⟩) (n+m) (grownCap w (n+m) c 99)) (w.drew.alloc (.cells ((g.take (i * 3)).toArray++Builtin.zeroCells a.cells (n+m - i)++Builtin.zeroCells a.cells (grownCap w (n+m) c 99 - (n+m))) 99)):=λl=>by
  have h:=Lib.run_append_grow_zeros w 29 3 l 99 Tryz.t99 a .i64 .i64 Tryz.underlying29 Tryz.underlying3 rfl hz (Z ⟨b,off,O⟩) i c (g.take (i * 3)) hold (n+m - i) (by omega) (by decide) (by omega) (by omega) (by show (n+m - i) * 56<=_;omega) (by rw[A];exact growslice_fits ow Qy);rw[A]at h;rw[wo];exact h
 have P:n+m<=grownCap w (n+m) c 99:=grownCap_ge w _ _ _;have C:grownCap w (n+m) c 99<=maxLen:=grownCap_le_maxLen w (n+m) c 99 (by unfold maxLen;omega);obtain⟨G,hG⟩:∃G,G=grownCap w (n+m) c 99:=⟨_,rfl⟩
 obtain⟨d,r⟩:∃d:Array Value,d=(g.take (i * 3)).toArray++Builtin.zeroCells a.cells (n+m - i)++Builtin.zeroCells a.cells (G - (n+m)):=⟨_,rfl⟩
 rw[<- hG]at q P C;rw[<- r]at q;have H:d.size=G * 3:=by
  rw[r];simp only[Builtin.zeroCells,Array.size_append,Array.size_map,Array.size_range,oQ,y,Mz];omega
 have K:∀j,j < i * 3->d[j]?=g[j]?:=λj f=>by
  rw[r,Array.append_assoc,Array.getElem?_append_left (by simp[y,f]),List.getElem?_toArray,cS,if_pos f]
 refine⟨d,G,P,C,H,K,?_⟩;have mixed:=m26;obtain⟨p,F⟩:∃p,p=w.drew.alloc (.cells d 99):=⟨_,rfl⟩
 rw[<- F]at q;have hN:∀j,j < (n+m) * 3->(p.cell? ⟨w.heap.size,j,O⟩).isSome=I:=λj f=>by
  rw[F,World.cell?_alloc_at (w:=w.drew) d _ w.heap.size j rfl,mV (by omega)];rfl
 have L:∀j,p.frozen? ⟨w.heap.size,j,O⟩=J:=λj=>by rw[F];exact World.frozen?_alloc_at (w:=w.drew) d _ w.heap.size j rfl
 have Y:∀j v,w.cell? ⟨b,j,O⟩=Z v->p.cell? ⟨b,j,O⟩=Z v:=λj v h=>by rw[F,World.cell?_alloc_past (w:=w.drew) _ b j HN];exact h
 have X:∀j v,w.cell? ⟨s,j,O⟩=Z v->p.cell? ⟨s,j,O⟩=Z v:=λj v h=>by rw[F,World.cell?_alloc_past (w:=w.drew) _ s j U];exact h
 have amA:∀(W:World),(∀x,W.cell? x=p.cell? x)->(∀x,W.frozen? x=p.frozen? x)->∀l D,(Builtin.copy_ #[29,29] l #[.slice (Z ⟨w.heap.size,i * 3,O⟩) (n+m - i) D,.slice (Z ⟨s,Q,O⟩) m R]).run Tryz.prog W=.ok (goInt m) (W.setCells w.heap.size (i * 3) k):=λW o B l D=>
  u5 W _ _ l 99 3 w.heap.size (i * 3) (n+m - i) D ⟨s,Q,O⟩ m R m k Tryz.underlying29 Tryz.sizeOf99 (by simp only[Nat.min_def];split<;>omega) wz
   (λj v f=>by rw[Addr.add_lit,o];exact X _ v (xw j v f))
   (λj f=>by rw[o];exact hN _ (by omega)) (λj f=>by rw[B];exact L _) h1v
 have aph:G<=9223372036854775807:=by unfold maxLen at C;omega
 have hGi:¬(G=i):=by omega
 have api:¬(G=i+m):=by omega
 have hci:¬(c=i):=by omega
 have V:b≠w.heap.size:=by omega
 have qw:(g.drop (i * 3)).length=(n - i) * 3:=by rw[dH,pS,vg]
 have N:∀(W:World),(∀x,W.cell? x=(p.setCells w.heap.size (i * 3) k).cell? x)->(∀x,W.frozen? x=(p.setCells w.heap.size (i * 3) k).frozen? x)->∀l D S,(Builtin.copy_ #[29,29] l #[.slice (Z ⟨w.heap.size,(i+m) * 3,O⟩) (n+m - (i+m)) D,.slice (Z ⟨b,off+i * 3,O⟩) (n - i) S]).run Tryz.prog W=.ok (goInt ((n - i:Nat):Int)) (W.setCells w.heap.size ((i+m) * 3) (g.drop (i * 3))):=λW o B l D S=>
  u5 W _ _ l 99 3 w.heap.size ((i+m) * 3) (n+m - (i+m)) D ⟨b,off+i * 3,O⟩ (n - i) S (n - i) (g.drop (i * 3)) Tryz.underlying29 Tryz.sizeOf99 (by simp only[Nat.min_def];split<;>omega) qw
   (λj v f=>by
    rw[Addr.add_lit,o,World.cell?_setCells_out _ _ _ _ _ (λh _=>absurd h V),cQ];exact Y _ v (T (i * 3+j) v (by rwa [fI]at f)))
   (λj f=>by rw[o];exact OW _ _ _ _ (λt ht=>hN _ (by omega)) _ (hN _ (by omega)))
   (λj f=>by rw[B,World.frozen?_setCells];exact L _) (λv hv=>h1c v (fc hv))
 subst F;have hE1:∀x,((w.alloc (.cells d 99)).drew).cell? x=(w.drew.alloc (.cells d 99)).cell? x:=λx=>rfl;have hE2:∀x,((w.alloc (.cells d 99)).drew).frozen? x=(w.drew.alloc (.cells d 99)).frozen? x:=λx=>rfl;have hF1:∀x,(((w.alloc (.cells d 99)).drew.setCells w.heap.size (i * 3) k).drew).cell? x=((w.drew.alloc (.cells d 99)).setCells w.heap.size (i * 3) k).cell? x:=λx=>rfl;have hF2:∀x,(((w.alloc (.cells d 99)).drew.setCells w.heap.size (i * 3) k).drew).frozen? x=((w.drew.alloc (.cells d 99)).setCells w.heap.size (i * 3) k).frozen? x:=λx=>rfl;have hw1:IntKind.i64.wrap ((i:Int)+(m:Int))=(i:Int)+(m:Int):=by rw[IntKind.wrap_i64];omega
 have BH:(0:Int)<=(i:Int)+(m:Int):=by omega
 have mG:i<=n:=by omega
 have htn:((i:Int)+(m:Int)).toNat=i+m:=by omega
 have hb3:(i:Int)<=(n:Int):=by omega
 clear wo A hold r hG H K
 go_enter Tryz.func233,Tryz.ntmps233
 go_wp2_with (first
  |(at_builtin;refine Lib.wpList_append_run _ rfl _ _ _ _ rfl _ _ rfl rfl _ _ (q _) ?_)
  |(at_builtin;refine td _ rfl _ _ 29 29 rfl _ _ rfl rfl (amA _ hE1 hE2 _ _) ?_)
  |(at_builtin;refine td _ rfl _ _ 29 29 rfl _ _ rfl rfl (N _ (λ_=>rfl) (λ_=>rfl) _ _ _) ?_))
 go_region_law_o (refine Dc rfl _ _ 29 29 rfl (.slice (Z ⟨w.heap.size,(i+m) * 3,O⟩) (n+m - (i+m)) (G - (i+m))) (.slice (Z ⟨b,off+i * 3,O⟩) (n - i) (c - i)) (by simp[Act.eval,Act.put]) (by simp[Act.eval,Act.put]) (N _ hF1 hF2 3 (G - (i+m)) (c - i)) ?_)
 go_wp2
 go_ret
 exact⟨rfl,rfl⟩
theorem jH{g:Nat}{T:TypeId}:∀(b:M Value) {w:World} {a:M Value} (i:Nat),kJ w g T a->i+b.length<=a.length->w.setCells g i b=gy w g (.cells (cO a i b).toArray T (0,0))
 |[],w,a,i,h,c=>by
  have:cO a i []=a:=by simp[cO]
  rw[this,Jx h];rfl
 |v::b,w,a,i,h,c=>by
  simp only[aH]at c;rw[World.setCells,C9 h,jH b (i+1) (h.iq T _) (by rw[rz];omega),xd _ _ _ _ (by omega),tU]
theorem nu(b:M Value)(i:Nat)(a:M Value)(h:i<=b.length):(cO b i a).take (i+a.length)=b.take i++a:=by
 unfold cO;rw[fT (by simp;omega),je (by simp;omega)]
theorem OD{g:Nat}{w a:World}(h:Ii g w.drew a):Ii g w a:=⟨h.os,h.tape,h.output,h.size,h.block,h.fz⟩
theorem W6{B:Nat}{w a:World}(h:CJ B w.drew a):CJ B w a:=⟨⟨h.os,h.tape,h.output,h.size,h.block⟩,h.H0⟩
theorem x9005:R9 Tryz.prog 172 J:=by
 intro w A n c a b m W h C V r Y l K y QM Q P p;rw[if_neg (by simp)]at p;obtain⟨S,rfl,rfl⟩:=p;have U:C=[]:=cy (by omega);subst U;rcases P with ⟨rfl,rfl⟩|⟨g,T,d,rfl,hB,D,i⟩
 ·omega
 unfold maxLen at r;obtain⟨F,H,j⟩:=aa6 w g 0 n c a b h y (λt v k=>qz hB i t v k) (λt=>hB.frozen _) (λv k=>GJ (Q v (by simp[k]))) S l V (by omega);refine j.mono λe X L=>?_;obtain⟨rfl,rfl⟩:=L;simp only[bo];have N:n * 3<=d.length:=by omega
 have G:(h.drop (b * 3)).length=(n - b) * 3:=by rw[dH,y,vg]
 have f:kJ w.drew g T d:=hB;rw[jH _ _ f (by omega)];have o:=f.iq T (cO d (a * 3) (h.drop (b * 3)));have B:(cO d (a * 3) (h.drop (b * 3))).length=d.length:=jO (by omega);rw[jH _ _ o (by omega),tU];have q:a+(n - b)=n - (b - a)+0:=by omega
 refine⟨g,c,T,_,by rw[q],by omega,r,f.iq T _,by rw[jO (by omega),B,D],?_,.inl ⟨rfl,OD (Ii.gy _ _ _ _)⟩⟩;rw[<- q,aK];have R:=nu (cO d (a * 3) (h.drop (b * 3))) ((a+(n - b)) * 3) F (by omega);have x:=nu d (a * 3) (h.drop (b * 3)) (by omega);rw[G,<- lu]at x;have s:=congrArg (zD ((a+(n - b)) * 3)) R;rw[mA,cE (by omega),fT (by rw[aY,B];omega),mA,Nat.min_self,x]at s;rw[s,<- i,mA,cE (by omega)]
theorem x9006:R9 Tryz.prog 233 I:=by
 intro w A n c a b m zv h f DU hc vC hbn N H F h1 hA hz;rw[if_pos rfl]at hz;obtain⟨rfl,hm,q,cc,Tz,us,rfl,B,hul,hut,hmc,hqg⟩:=hz;unfold room at N;have y:∀j v,f[j]?=Z v->w.cell? ⟨q,0+j,O⟩=Z v:=λj v r=>qz B hut j v r;have h1x:∀v∈h,v.oneCell'=I:=λv r=>GJ (h1 v (by simp[r]));have C:∀v∈f,v.oneCell'=I:=λv r=>GJ (h1 v (by simp[r]));have hnn:n - (a - a)+m=n+m:=by omega
 rw[hnn];have ajZ:∀{us:M Value} {p:World},kJ p w.heap.size 99 us->p.heap.size=w.heap.size+1->CJ w.heap.size w p->∀G,n+m<=G->G<=maxLen->us.length=G * 3->us.take ((n+m) * 3)=h.take (a * 3)++f++h.drop (a * 3)->
   ∃g' c' T' K,Ending.returned (.slice (Z ⟨w.heap.size,0,O⟩) (n+m) G)=.returned (.slice (Z ⟨g',0,O⟩) (n+m) c')/\n+m<=c'/\c'<=maxLen/\kJ p g' T' K/\K.length=c' * 3/\K.take ((n+m) * 3)=h.take (a * 3)++f++h.drop (a * 3)/\((A=Z ⟨g',0,O⟩/\Ii g' w p)\/(g'=w.heap.size/\p.heap.size=w.heap.size+1/\CJ w.heap.size w p)):=
  λhB hs hb G h2 h3 h4 h5=>⟨_,G,99,_,rfl,h2,h3,hB,h4,h5,.inr ⟨rfl,hs,hb⟩⟩
 rcases dD c (n+m) with L|L
 ·
  rcases dD a n with s|s
  ·rcases hA with ⟨rfl,rfl⟩|⟨g,T,o,rfl,hB,wz,l⟩
   ·omega
   obtain⟨i,G,r1,r2,r3,r4,r5⟩:=abF g 0 n c a q 0 m cc h f w s hm DU L N H F (λt v r=>qz hB l t v r) y h1x C;refine r5.mono λe p P=>?_;obtain⟨rfl,rfl⟩:=P;have x:kJ (w.alloc (.cells i 99)).drew w.heap.size 99 i.toList:=by
    have:=kJ.new w 99 i.toList;rw[zq]at this;exact this
   have qw:(h.drop (a * 3)).length=(n - a) * 3:=by rw[dH,H,vg]
   have hRl:i.toList.length=G * 3:=by rw[eQ,r3]
   rw[jH _ _ x (by omega)];have S:=x.iq 99 (cO i.toList (a * 3) f);have As:(cO i.toList (a * 3) f).length=i.toList.length:=jO (by omega);have aiy:kJ (gy (w.alloc (.cells i 99)).drew w.heap.size (.cells (cO i.toList (a * 3) f).toArray 99 (0,0))).drew w.heap.size 99 (cO i.toList (a * 3) f):=S;rw[jH _ _ aiy (by omega)];have hB2:=aiy.iq 99 (cO (cO i.toList (a * 3) f) ((a+m) * 3) (h.drop (a * 3)));refine ajZ hB2 (by rw[gh];show (gy _ _ _).heap.size=_;rw[gh];exact size_alloc w _) (Uw (MQ (xk w i 99).drew (MR _) (by show w.heap.size<=(w.alloc _).heap.size;rw[size_alloc];omega)) (by
    have X:=Ii.gy (w.alloc (.cells i 99)).drew w.heap.size (cO i.toList (a * 3) f).toArray 99;have U:=Ii.gy (gy (w.alloc (.cells i 99)).drew w.heap.size (.cells (cO i.toList (a * 3) f).toArray 99 (0,0))).drew w.heap.size (cO (cO i.toList (a * 3) f) ((a+m) * 3) (h.drop (a * 3))).toArray 99;exact⟨U.os.trans X.os,U.tape.trans X.tape,U.output.trans X.output,U.size.trans X.size,λk hk=>(U.block k hk).trans (X.block k hk),U.fz⟩) (aD _)) G r1 r2 (by rw[jO (by omega),As,hRl]) ?_
   have D:=nu (cO i.toList (a * 3) f) ((a+m) * 3) (h.drop (a * 3)) (by omega);have e2:=nu i.toList (a * 3) f (by omega);rw[qw,<- lu,show a+m+(n - a)=n+m by omega]at D;rw[F,<- lu]at e2;rw[D,e2]
   congr 2
   apply eE
   intro j;rw[cS,cS];split
   ·rw[Array.getElem?_toList];exact r4 j (by assumption)
   ·rfl
  ·have Q:a=n:=by omega
   subst Q;obtain⟨d,hz,r5⟩:=YO A a c q 0 m cc h f w hm DU L N H F (λhn=>by
     rcases hA with ⟨_,rfl⟩|⟨g,T,o,hg,_⟩
     ·omega
     ·rw[hn]at hg;cases hg) (λad Y j v r=>by
     rcases hA with ⟨rfl,_⟩|⟨g,T,o,rfl,hB,wz,l⟩
     ·cases Y
     ·cases Y;rw[Addr.add_lit];exact qz hB l j v r) y C
   have Mz:d.cells.size=3:=by cases hz;rfl
   refine r5.mono λe p P=>?_;obtain⟨rfl,rfl⟩:=P;have hG1:=grownCap_ge w (a+m) c 99;have hG2:=grownCap_le_maxLen w (a+m) c 99 (by unfold maxLen;omega);have x:=kJ.new w.drew 99 ((h++f)++(Builtin.zeroCells d.cells (grownCap w (a+m) c 99 - (a+m))).toList);have he:((h++f)++(Builtin.zeroCells d.cells (grownCap w (a+m) c 99 - (a+m))).toList).toArray=(h++f).toArray++Builtin.zeroCells d.cells (grownCap w (a+m) c 99 - (a+m)):=by simp
   rw[he]at x;refine ajZ x (size_alloc _ _) (W6 (xk w.drew _ 99)) _ hG1 hG2 ?_ ?_
   ·simp only[bh,eQ,Builtin.zeroCells,Array.size_map,Array.size_range,Mz,H,F];omega
   ·rw[fT (by simp;omega),je (by simp;omega),<- H,aR,bE,aK]
 ·
  rcases hA with ⟨rfl,rfl⟩|⟨g,T,o,rfl,hB,wz,l⟩
  ·omega
  unfold maxLen at hc;have amW:=hqg g rfl;have qw:(h.drop (a * 3)).length=(n - a) * 3:=by rw[dH,H,vg]
  have CW:∀j,j < c * 3->(w.cell? ⟨g,0+j,O⟩).isSome=I:=λj hj=>by rw[bo,hB.cell,fu (by omega)];rfl
  rcases dD a n with s|s
  ·have W:∀{g T o},kJ w g T o->w.shape? g=Z (T,o.length):=λ{g T o} hB=>by
    unfold kJ at hB;simp[World.shape?,hB]
   refine (U9 g 0 n c a q 0 m cc h f w s hm L (by omega) amW H F (λt v r=>qz hB l t v r) (λj hj=>CW j (by omega)) (λj=>hB.frozen _) y h1x C _ _ _ _ (W B) (W hB) (by omega) (B.frozen _) (B.frozen _)).mono λe p P=>?_;obtain⟨rfl,rfl⟩:=P;simp only[bo];have R:kJ w.drew g T o:=hB;rw[jH _ _ R (by omega)];have S:=R.iq T (cO o ((a+m) * 3) (h.drop (a * 3)));have As:(cO o ((a+m) * 3) (h.drop (a * 3))).length=o.length:=jO (by omega);rw[jH _ _ S (by omega),tU];refine⟨g,c,T,_,rfl,L,hc,R.iq T _,by rw[jO (by omega),As,wz],?_,.inl ⟨rfl,OD (Ii.gy _ _ _ _)⟩⟩;have D:=nu o ((a+m) * 3) (h.drop (a * 3)) (by omega);rw[qw,<- lu,show a+m+(n - a)=n+m by omega]at D;generalize hV:cO o ((a+m) * 3) (h.drop (a * 3))=V at *;have e2:V.take (a * 3)=h.take (a * 3):=by
    have:=congrArg (zD (a * 3)) D;rw[mA,cE (by omega),fT (by simp;omega),mA,cE (by omega)]at this;rw[this,<- l,mA,cE (by omega)]
   have e3:(V.drop ((a+m) * 3)).take ((n - a) * 3)=h.drop (a * 3):=by
    have:=congrArg (List.drop ((a+m) * 3)) D;rw[List.drop_take,List.drop_left' (by rw[aY];omega)]at this;rw[<- this]
    congr 1
    omega
   unfold cO;rw[F,show a * 3+m * 3=(a+m) * 3 by omega,List.take_append,je (by simp;omega)];have e4:(V.take (a * 3)++f).length=(a+m) * 3:=by simp[F];omega
   rw[e4,show (n+m) * 3 - (a+m) * 3=(n - a) * 3 by omega,e3,e2]
  ·have Q:a=n:=by omega
   subst Q;refine (YP g 0 a c q 0 m cc f w hm L (by omega) F (λj hj=>by rw[bo,show a * 3+j=0+(a * 3+j) by omega];exact CW _ (by omega)) (λj=>hB.frozen _) y C).mono λe p P=>?_;obtain⟨rfl,rfl⟩:=P;simp only[bo];rw[jH _ _ hB (by omega)];refine⟨g,c,T,_,rfl,L,hc,hB.iq T _,by rw[jO (by omega),wz],?_,.inl ⟨rfl,Ii.gy _ _ _ _⟩⟩;have D:=nu o (a * 3) f (by omega);rw[F,<- lu,l]at D;rw[D,<- H,aR,bE,aK]
end
end Go.Proofs.YtnnjajingjfjiaaGreatDoor
