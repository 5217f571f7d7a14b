/- Part of the proof: a machine over plain data, its proof, the functions of the program run on symbols, what they answer. Condition: none. -/
import Derived.Test.YthlpjklbafakfaaGreatDoorProg
import Derived.Shelf.RegionOpenPlain
import Derived.WalkKit
import Derived.Deep.LoopGhost
import Derived.Deep.RegionLaw
import Derived.Lib.Walk
import Derived.Lib.SliceRun
import Derived.Laws.IdiomCopy
import Derived.Lib.Overlaps
import Derived.Lib.AppendZerosOnto
import Derived.Laws.Externs
import Derived.Laws.NewBlocks
import Derived.Test.YthlpjklbafakfaaGreatDoorZz02
set_option linter.unusedVariables false
set_option linter.unusedSimpArgs false
open Array renaming length_toList->eW,toList_map->mB,getElem?_eq_getElem->mE
open List renaming length_cons->aE,append_nil->aQ,length_append->aR,map_cons->aW,length_take->bj,take_length->bN,length_drop->bT,eq_nil_of_length_eq_zero->ck,mem_map->cm,map_nil->cE,length_eq_zero_iff->cG,getElem?_take->da,ext_getElem?->fi,drop_length->fC,getElem?_eq_getElem->fD,take_of_length_le->gT,mem_of_mem_drop->iD,getElem?_drop->jA,take_take->kP,take_append_of_le_length->k9,size_toArray->nW,length_set->qa
open Nat renaming le_refl->au,zero_add->bD,add_assoc->cV,lt_or_ge->dU,min_eq_left->ei,add_zero->eu,add_mul->lj,sub_mul->tL
open Option renaming some->Z,none->O
open Bool renaming true->I,false->J
namespace Go.Proofs.YthlpjklbafakfaaGreatDoor
section
open Go.RowKit Go.Lib Go.Shelf
theorem L7{P:Program}(w:World)(t e g:TypeId)(a:Value)(k:P.underlying t=Z (.slice e))(i:∀w,(zeroValue e).run P w=.ok a w)(b o n c:Nat)(d:M Value)(r:0 < n)(h:(Builtin.zeroCells a.cells n).toList=d)(q:∀v∈d,v.oneCell'=I)
  (p:∀j,j < d.length->(w.cell? ⟨b,o+j,O⟩).isSome=I) (l:∀j,j < d.length->w.frozen? ⟨b,o+j,O⟩=J) :
  (Builtin.clear_ #[t] g #[.slice (Z ⟨b,o,O⟩) n c]).run P w=.ok (.tuple #[]) (w.setCells b o d):=by
 have f:=run_storeCells_cells (P:=P) b o d 0 w (by simpa using p) (by simpa using l) q;simp only[eu]at f;obtain⟨m,rfl⟩:∃m,n=m+1:=⟨n - 1,by omega⟩
 simp[Builtin.clear_,run_underlying k,i,h,f]
set_option maxHeartbeats 4000000 in
set_option maxRecDepth 1000000 in
theorem Y6(w:World)(g off n c i j:Nat)(p:M Value)(N:p.length=n * 3)(D:∀t v,p[t]?=Z v->w.cell? ⟨g,off+t,O⟩=Z v)(K:∀t,w.frozen? ⟨g,off+t,O⟩=J)(Q:∀v∈p,v.oneCell'=I)
  (Y:i < j) (hj:j<=n) (Fl:n<=c) (agU:c<=9223372036854775807) :
  ∃k:M Value,k.length=(n - (i+(n - j))) * 3/\Calls Tryz.prog 161 #[.slice (Z ⟨g,off,O⟩) n c,.int .i64 i,.int .i64 j] w λe S=>e=.returned (.slice (Z ⟨g,off,O⟩) (i+(n - j)) c)/\S=(w.drew.setCells g (off+i * 3) (p.drop (j * 3))).setCells g (off+(i+(n - j)) * 3) k:=by
 obtain⟨b,P,x,y⟩:∃b:Value,(∀w,(zeroValue 65).run Tryz.prog w=.ok b w)/\b.cells.size=3/\∀i,(b.cells[i % 3]!).oneCell'=I:=⟨_,λw=>Tryz.zeroValue65 w,rfl,λi=>by
  have:i % 3=0\/i % 3=1\/i % 3=2:=by omega
  rcases this with h|h|h<;>rw[h]<;>rfl⟩
 obtain⟨k,C⟩:∃k,(Builtin.zeroCells b.cells (n - (i+(n - j)))).toList=k:=⟨_,rfl⟩
 have z3:k.length=(n - (i+(n - j))) * 3:=by
  rw[<- C];simp[Builtin.zeroCells,x]
 have z2:∀v∈k,v.oneCell'=I:=λv G=>by
  rw[<- C]at G;simp only[Builtin.zeroCells,x,mB,cm]at G;obtain⟨q,_,rfl⟩:=G;exact y q
 refine⟨k,z3,?_⟩;have mixed:Tryz.prog.follows .mixedOrders=I:=by kernel_rfl
 obtain⟨d,s⟩:∃d,d=p.drop (j * 3):=⟨_,rfl⟩
 have f:d.length=(n - j) * 3:=by rw[s,bT,N,tL]
 obtain⟨A,hA,U⟩:∃A:Addr,(if c=j then Z (⟨g,off,O⟩:Addr) else Z ⟨g,off+j * 3,O⟩)=Z A/\Hid (∀t a,d[t]?=Z a->w.drew.cell? (A.add t)=Z a):=by
  by_cases h:c=j
  ·refine⟨⟨g,off,O⟩,by simp[h],λt a m=>?_⟩;have h0:d.length=0:=by rw[f];omega
   rw[cG.1 h0]at m;simp at m
  ·refine⟨⟨g,off+j * 3,O⟩,by simp[h],λt a m=>?_⟩;rw[Addr.add_lit,cV];rw[s,jA]at m;exact D _ a m
 have W:Hid (d.length=(n - j) * 3):=f;have V:Hid (∀a∈d,a.oneCell'=I):=λa m=>by rw[s]at m;exact Q a (iD m)
 have H:∀t,t < n * 3->(w.cell? ⟨g,off+t,O⟩).isSome=I:=λt l=>by rw[D t p[t] (by simp[N,l])];rfl
 have L:Hid (∀t,t < d.length->(w.drew.cell? ⟨g,off+i * 3+t,O⟩).isSome=I/\w.drew.frozen? ⟨g,off+i * 3+t,O⟩=J):=by
  intro t l;rw[f]at l;rw[cV];exact⟨H _ (by omega),K _⟩
 obtain⟨o,r⟩:∃o,o=w.drew.setCells g (off+i * 3) d:=⟨_,rfl⟩
 have B:∀t,t < n * 3->(o.cell? ⟨g,off+t,O⟩).isSome=I:=λt l=>by
  by_cases tQ:i * 3<=t/\t < i * 3+d.length
  ·have:=World.cell?_setCells_in g d (off+i * 3) w.drew (λt l=>(L.out t l).1) (t - i * 3) (by omega);rw[show off+i * 3+(t - i * 3)=off+t by omega]at this;rw[r,this];simp
  ·rw[r,World.cell?_setCells_out g d (off+i * 3) w.drew ⟨g,off+t,O⟩ (λ_ _=>by show off+t < off+i * 3\/off+i * 3+d.length<=off+t;omega)];exact H t l
 have qL:∀F,(Builtin.clear_ #[25] F #[.slice (Z ⟨g,off+(i+(n - j)) * 3,O⟩) (n - (i+(n - j))) (c - (i+(n - j)))]).run Tryz.prog o=.ok (.tuple #[]) (o.setCells g (off+(i+(n - j)) * 3) k):=
  λF=>L7 o _ _ F _ Tryz.underlying25 P g (off+(i+(n - j)) * 3) _ _ k (by omega) C z2 (λt l=>by rw[cV];exact B _ (by rw[z3]at l;omega)) (λt l=>by rw[r,World.frozen?_setCells,cV];exact K _)
 have hW:Hid (o=w.drew.setCells g (off+i * 3) d):=r;have hic:i<=c:=by omega
 have X:j<=c:=by omega
 rw[<- s,<- r];clear r D K Q P y C H B z2 z3 s f;have T:=Tryz.underlying25;have a26:=Tryz.isAgg25;have R:=Tryz.sizeOf65
 go_enter Tryz.func161,Tryz.ntmps161
 go_wp2_with fail
 go_region_law_o (refine step_append_room rfl (.tmp 22) (.tmp 25) 25 rfl 65 Tryz.t65 3 Tryz.underlying25 rfl rfl g off i c (by simp[Act.eval,Act.put]) A (n - j) (c - j) d (by simp[Act.eval,Act.put]) W.out U.out V.out (by omega) L.out ?_;rw[<- hW.out])
 go_wp2
 go_ret
 exact⟨rfl,rfl⟩
theorem tH{P:Program}(w:World)(l q n elem:TypeId)(k b o e h:Nat)(a:Addr)(c f m:Nat)(d:M Value)(r:P.underlying l=Z (.slice elem))(y:∀w,(sizeOf elem).run P w=.ok k w)(t:Nat.min c e=m)(s:d.length=m * k)
  (p:∀j v,d[j]?=Z v->w.cell? (a.add j)=Z v) (B:∀j,j < d.length->(w.cell? ⟨b,o+j,O⟩).isSome=I) (A:∀j,j < d.length->w.frozen? ⟨b,o+j,O⟩=J) (C:∀v∈d,v.oneCell'=I) :
  (Builtin.copy_ #[l,q] n #[.slice (Z ⟨b,o,O⟩) e h,.slice (Z a) c f]).run P w=.ok (goInt m) (w.setCells b o d):=by
 have x:=run_firstCells_some (P:=P) w k m a c f d s p;have i:=run_storeCells_cells (P:=P) b o d 0 w (by simpa using B) (by simpa using A) C;simp only[eu]at i;have g:c.min e=m:=t;simp[Builtin.copy_,run_underlying r,y,Builtin.lenOf,g,x,i]
theorem rj{P:Program}(w:World){c:Array Oper}{rest:M Oper}{o:Oper}{a:Act}{Q:Exit->Act->World->Prop}(e:o.guard=O)(d s:Operand)(t i:TypeId)
  (l:o.op=.call {callee:=.builtin .copy,args:=#[d,s],argTypes:=#[t,i] }) (v b:Value) (hd:a.eval d=v) (j:a.eval s=b) {g:Value} {f:World}
  (k:(Builtin.copy_ #[t,i] o.type #[v,b]).run P w=.ok g f) (h:wpList P c Q rest (a.put o.dst g) f):wpList P c Q (o::rest) a w:=
 wpList_plain e λ_ m=>by
  unfold Oper.wp execOp;simp only[l,resolve,invoke,builtin,Sem.run_bind,Sem.run_pure,Result.andThen_ok,List.map_toArray,aW,cE,hd,j,k];exact m _ _ h
theorem BN{P:Program}{e:Array Oper}{o:Oper}{a:Act}{w:World}{K:Act->World->Prop}{Q:Exit->Act->World->Prop}{c:Prop}
  (m:o.guard=O) (d x:Operand) (i h:TypeId) (p:o.op=Op.call {callee:=Callee.builtin Builtin.copy,args:=#[d,x],argTypes:=#[i,h] })
  (v b:Value) (hd:a.eval d=v) (j:a.eval x=b) {g:Value} {f:World} (l:(Builtin.copy_ #[i,h] o.type #[v,b]).run P w=.ok g f) (n:K (a.put o.dst g) f) :
  if Region.wanted o (yielded e a.tmps)=I then Oper.wp P o a w K Q else c:=by
 have k:Region.wanted o (yielded e a.tmps)=I:=by simp[Region.wanted,m]
 rw[if_pos k];unfold Oper.wp;simp[execOp,p,resolve,invoke,builtin,hd,j,l,Result.andThen];exact n
theorem L9(b:Nat)(a:M Value)(o:Nat)(w:World)(h:∀j,j < a.length->(w.cell? ⟨b,o+j,O⟩).isSome=I)(k:Nat)(c:(w.cell? ⟨b,k,O⟩).isSome=I):((w.setCells b o a).cell? ⟨b,k,O⟩).isSome=I:=by
 by_cases d:o<=k/\k < o+a.length
 ·have:=World.cell?_setCells_in b a o w h (k - o) (by omega);rw[show o+(k - o)=k by omega]at this;rw[this];rfl
 ·rw[World.cell?_setCells_out b a o w ⟨b,k,O⟩ (λ_ _=>by show k < o\/o+a.length<=k;omega)];exact c
theorem m26:Tryz.prog.follows .mixedOrders=I:=by kernel_rfl
set_option maxHeartbeats 4000000 in
set_option maxRecDepth 100000 in
theorem VT(b off n c f g m i:Nat)(d:M Value)(w:World)(B:0 < m)(s:n+m<=c)(y:c<=9223372036854775807)(p:d.length=m * 3)(l:∀j,j < m * 3->(w.cell? ⟨b,off+n * 3+j,O⟩).isSome=I)(A:∀j,w.frozen? ⟨b,j,O⟩=J)
  (r:∀j v,d[j]?=Z v->w.cell? ⟨f,g+j,O⟩=Z v) (o:∀v∈d,v.oneCell'=I) :
  Calls Tryz.prog 220 #[.slice (Z ⟨b,off,O⟩) n c,.int .i64 n,.slice (Z ⟨f,g,O⟩) m i] w λe q=>e=.returned (.slice (Z ⟨b,off,O⟩) (n+m) c)/\q=w.setCells b (off+n * 3) d:=by
 have mixed:=m26;have x:¬((m:Int)=0):=by omega
 have t:∀k,(Builtin.append_ #[25,25] k #[.slice (Z ⟨b,off,O⟩) n c,.slice (Z ⟨f,g,O⟩) m i]).run Tryz.prog w=_:=λk=>
  run_append_room_cells w 25 k 65 Tryz.t65 Tryz.underlying25 rfl b off n c ⟨f,g,O⟩ m i d p (λj a h=>by rw[Addr.add_lit];exact r j a h) o s (λj h=>by rw[p]at h;exact l j h) (λj _=>A _)
 go_enter Tryz.func220,Tryz.ntmps220
 go_wp2_with (at_builtin;refine Lib.wpList_append_run _ rfl _ _ _ _ rfl _ _ rfl rfl _ _ (t _) ?_)
 all_goals (go_ret;exact⟨rfl,rfl⟩)
set_option maxHeartbeats 4000000 in
set_option maxRecDepth 100000 in
theorem VR(base:u Addr)(n c h i m l:Nat)(g f:M Value)(w:World)(L:0 < m)(Q:n<=c)(s:c < n+m)(K:(n+m) * 56<=140737488355328)(F:g.length=n * 3)(B:f.length=m * 3)(k:base=O->n=0)
  (C:∀a,base=Z a->∀j v,g[j]?=Z v->w.cell? (a.add j)=Z v) (A:∀j v,f[j]?=Z v->w.cell? ⟨h,i+j,O⟩=Z v) (q:∀v∈f,v.oneCell'=I) :
  ∃b,Tryz.t65.zero=Z b/\Calls Tryz.prog 220 #[.slice base n c,.int .i64 n,.slice (Z ⟨h,i,O⟩) m l] w λe y=>e=.returned (.slice (Z ⟨w.heap.size,0,O⟩) (n+m) (grownCap w (n+m) c 65))/\
   y=w.drew.alloc (.cells ((g++f).toArray++Builtin.zeroCells b.cells (grownCap w (n+m) c 65 - (n+m))) 65):=by
 have mixed:=m26;have G:¬((m:Int)=0):=by omega
 obtain⟨b,x⟩:∃b,Tryz.t65.zero=Z b:=⟨_,rfl⟩
 refine⟨b,x,?_⟩;have D:Src Tryz.prog 3 25 (.slice (Z ⟨h,i,O⟩) m l) m f w:=Src.ofSlice w Tryz.underlying25 ⟨h,i,O⟩ m l f B (λj d p=>by rw[Addr.add_lit];exact A j d p) q;have hold:(Builtin.firstCells 3 n (.slice base n c)).run Tryz.prog w.drew=.ok g.toArray w.drew:=by
  cases base with
  |none=>
   have r:=k rfl;subst r;rw[cG.1 (by omega:g.length=0)];exact run_firstCells_none w.drew 3 0 0 c
  |some a=>exact run_firstCells_some w.drew 3 n a n c g F (λj v p=>C a rfl j v p)
 have t:∀o,(Builtin.append_ #[25,25] o #[.slice base n c,.slice (Z ⟨h,i,O⟩) m l]).run Tryz.prog w=_:=λo=>
  run_append_grow_src w 25 25 o 65 Tryz.t65 b Tryz.underlying25 rfl x base n c g hold _ m f D s (by omega) (growslice_fits s K)
 go_enter Tryz.func220,Tryz.ntmps220
 cases base with
 |none=>
  have r:=k rfl;subst r
  go_wp2_with (at_builtin;refine Lib.wpList_append_run _ rfl _ _ _ _ rfl _ _ rfl rfl _ _ (t _) ?_)
  all_goals (go_ret;exact⟨rfl,rfl⟩)
 |some a=>
  obtain⟨P,N,H⟩:=a
  go_wp2_with (at_builtin;refine Lib.wpList_append_run _ rfl _ _ _ _ rfl _ _ rfl rfl _ _ (t _) ?_)
  all_goals (go_ret;exact⟨rfl,rfl⟩)
set_option maxHeartbeats 4000000 in
set_option maxRecDepth 100000 in
theorem RY(b off n c i a l m r:Nat)(f q:M Value)(w:World)(hi:i < n)(hm:0 < m)(nJ:n+m<=c)(agU:c<=9223372036854775807)(s:a≠b)(qL:f.length=n * 3)(vL:q.length=m * 3)
  (vJ:∀j v,f[j]?=Z v->w.cell? ⟨b,off+j,O⟩=Z v) (o:∀j,j < (n+m) * 3->(w.cell? ⟨b,off+j,O⟩).isSome=I) (V:∀j,w.frozen? ⟨b,j,O⟩=J)
  (Y:∀j v,q[j]?=Z v->w.cell? ⟨a,l+j,O⟩=Z v) (R:∀v∈f,v.oneCell'=I) (Q:∀v∈q,v.oneCell'=I)
  (tA tB:TypeId) (kA kB:Nat) (G:w.shape? a=Z (tA,kA)) (F:w.shape? b=Z (tB,kB)) (K:kB≠0) (N:w.frozen? ⟨a,l,O⟩=J) (L:w.frozen? ⟨a,kA,O⟩=J) :
  Calls Tryz.prog 220 #[.slice (Z ⟨b,off,O⟩) n c,.int .i64 i,.slice (Z ⟨a,l,O⟩) m r] w λe X=>
   e=.returned (.slice (Z ⟨b,off,O⟩) (n+m) c)/\X=(w.drew.setCells b (off+(i+m) * 3) (f.drop (i * 3))).setCells b (off+i * 3) q:=by
 have hz1:¬((m:Int)=0):=by omega
 have VN:¬((i:Int)=(n:Int)):=by omega
 have H:∀D S,(callFunc 231 #[.slice (Z ⟨a,l,O⟩) m r,.slice (Z ⟨b,off+(i+m) * 3,O⟩) D S]).run Tryz.prog w=.ok (.value (.bool J)) w:=λD S=>by
  rw[run_callFunc_extern Tryz.func231 (by kernel_rfl) (by kernel_rfl) (by kernel_rfl) (e:=Extern.SlicesOverlaps.overlaps #[25,25] #[4]) (by kernel_rfl),
   Lib.run_overlaps_apart w 25 4 65 Tryz.underlying25 3 Tryz.sizeOf65 ⟨a,l,O⟩ ⟨b,off+(i+m) * 3,O⟩ m r D S s tA tB kA kB G F K N L]
  rfl
 have vK:(f.drop (i * 3)).length=(n - i) * 3:=by rw[bT,qL,tL]
 have mixed:=m26;have hw1:IntKind.i64.wrap ((i:Int)+(m:Int))=(i:Int)+(m:Int):=by rw[IntKind.wrap_i64];omega
 have BZ:(0:Int)<=(i:Int)+(m:Int):=by omega
 have tQ:i<=n:=by omega
 have htn:((i:Int)+(m:Int)).toNat=i+m:=by omega
 have Ar:¬(c=i+m):=by omega
 have hb3:(i:Int)<=(n:Int)+(m:Int):=by omega
 have hb4:¬(c=i):=by omega
 have y:∀g p C,(Builtin.copy_ #[25,25] g #[.slice (Z ⟨b,off+(i+m) * 3,O⟩) (n+m - (i+m)) p,.slice (Z ⟨b,off+i * 3,O⟩) (n+m - i) C]).run Tryz.prog w.drew=.ok (goInt ((n - i:Nat):Int)) (w.drew.setCells b (off+(i+m) * 3) (f.drop (i * 3))):=λg p C=>
  tH w.drew _ _ g 65 3 b (off+(i+m) * 3) (n+m - (i+m)) p ⟨b,off+i * 3,O⟩ (n+m - i) C (n - i) (f.drop (i * 3)) Tryz.underlying25 Tryz.sizeOf65 (by simp only[Nat.min_def];split<;>omega) vK
   (λj v d=>by rw[Addr.add_lit,cV];exact vJ (i * 3+j) v (by rwa [jA]at d))
   (λj d=>by rw[cV];exact o _ (by omega)) (λj d=>V _) (λv hv=>R v (iD hv))
 obtain⟨A,B⟩:∃A,A=w.drew.setCells b (off+(i+m) * 3) (f.drop (i * 3)):=⟨_,rfl⟩
 have T:∀k,k < (n+m) * 3->(A.cell? ⟨b,off+k,O⟩).isSome=I:=λk hk=>by
  rw[B];exact L9 b _ _ _ (λj d=>by rw[cV];exact o _ (by omega)) _ (o k hk)
 have U:∀(W:World),(∀x,W.cell? x=A.cell? x)->(∀x,W.frozen? x=A.frozen? x)->∀g p,(Builtin.copy_ #[25,25] g #[.slice (Z ⟨b,off+i * 3,O⟩) (n+m - i) p,.slice (Z ⟨a,l,O⟩) m r]).run Tryz.prog W=.ok (goInt m) (W.setCells b (off+i * 3) q):=λW t P g p=>
  tH W _ _ g 65 3 b (off+i * 3) (n+m - i) p ⟨a,l,O⟩ m r m q Tryz.underlying25 Tryz.sizeOf65 (by simp only[Nat.min_def];split<;>omega) vL
   (λj v d=>by
    rw[Addr.add_lit,t,B,World.cell?_setCells_out b _ _ _ _ (λh _=>absurd h s)];exact Y j v d)
   (λj d=>by rw[t,cV];exact T _ (by omega)) (λj d=>by rw[P,B,World.frozen?_setCells];exact V _) Q
 rw[<- B]at y
 go_enter Tryz.func220,Tryz.ntmps220
 go_wp2_with (simp only[H])
 go_region_law_o (refine BN rfl _ _ 25 25 rfl _ _ (by simp[Act.eval,Act.put]) (by simp[Act.eval,Act.put]) (y _ _ _) ?_)
 go_wp2_with (at_builtin;refine rj _ rfl _ _ 25 25 rfl _ _ rfl rfl (U _ (λ_=>rfl) (λ_=>rfl) _ _) ?_)
 go_ret
 first|exact⟨rfl,rfl⟩|exact⟨rfl,by rw[B]⟩
set_option maxHeartbeats 4000000 in
set_option maxRecDepth 100000 in
theorem ZP(b off n c i r N m Q:Nat)(g k:M Value)(w:World)(hi:i < n)(hm:0 < m)(Fl:n<=c)(nJ:c < n+m)(Ni:(n+m) * 56<=140737488355328)(qL:g.length=n * 3)(vL:k.length=m * 3)
  (R:∀j v,g[j]?=Z v->w.cell? ⟨b,off+j,O⟩=Z v) (vM:∀j v,k[j]?=Z v->w.cell? ⟨r,N+j,O⟩=Z v) (h1c:∀v∈g,v.oneCell'=I) (h1v:∀v∈k,v.oneCell'=I) :
  ∃(d:Array Value) (G:Nat),n+m<=G/\G<=maxLen/\d.size=G * 3/\(∀j,j < i * 3->d[j]?=g[j]?)/\Calls Tryz.prog 220 #[.slice (Z ⟨b,off,O⟩) n c,.int .i64 i,.slice (Z ⟨r,N,O⟩) m Q] w λe w'=>
   e=.returned (.slice (Z ⟨w.heap.size,0,O⟩) (n+m) G)/\w'=(((w.alloc (.cells d 65)).drew.setCells w.heap.size (i * 3) k).drew).setCells w.heap.size ((i+m) * 3) (g.drop (i * 3)):=by
 obtain⟨a,hz⟩:∃a,Tryz.t65.zero=Z a:=⟨_,rfl⟩
 have JY:a.cells.size=3:=by cases hz;rfl
 have hz1:¬((m:Int)=0):=by omega
 have VN:¬((i:Int)=(n:Int)):=by omega
 have hz3:(c:Int) < (n:Int)+(m:Int):=by omega
 have FC:b < w.heap.size:=block_lt_of_cell (R 0 _ (fD (by omega)));have T:r < w.heap.size:=block_lt_of_cell (vM 0 _ (fD (by omega)));have By:(n:Int)+(m:Int) - (i:Int)=((n+m - i:Nat):Int):=by omega
 have s:i+(n+m - i)=n+m:=by omega
 have ZH:(g.take (i * 3)).length=i * 3:=by rw[bj,ei (by omega)]
 have hold:(Builtin.firstCells 3 i (.slice (Z ⟨b,off,O⟩) i c)).run Tryz.prog w.drew=.ok (g.take (i * 3)).toArray w.drew:=
  run_firstCells_some w.drew 3 i ⟨b,off,O⟩ i c (g.take (i * 3)) ZH (λj v f=>by
   rw[Addr.add_lit];rw[da]at f
   split at f
   ·exact R j v f
   ·cases f)
 have q:∀l,(Builtin.append_ #[25,3] l #[.slice (Z ⟨b,off,O⟩) i c,.int .i64 ((n:Int)+(m:Int) - (i:Int))]).run Tryz.prog w =
   .ok (.slice (Z ⟨w.heap.size,0,O⟩) (n+m) (grownCap w (n+m) c 65)) (w.drew.alloc (.cells ((g.take (i * 3)).toArray++Builtin.zeroCells a.cells (n+m - i)++Builtin.zeroCells a.cells (grownCap w (n+m) c 65 - (n+m))) 65)):=λl=>by
  have h:=Lib.run_append_grow_zeros w 25 3 l 65 Tryz.t65 a .i64 .i64 Tryz.underlying25 Tryz.underlying3 rfl hz (Z ⟨b,off,O⟩) i c (g.take (i * 3)) hold (n+m - i) (by omega) (by decide) (by omega) (by omega) (by show (n+m - i) * 56<=_;omega) (by rw[s];exact growslice_fits nJ Ni);rw[s]at h;rw[By];exact h
 have L:n+m<=grownCap w (n+m) c 65:=grownCap_ge w _ _ _;have A:grownCap w (n+m) c 65<=maxLen:=grownCap_le_maxLen w (n+m) c 65 (by unfold maxLen;omega);obtain⟨G,hG⟩:∃G,G=grownCap w (n+m) c 65:=⟨_,rfl⟩
 obtain⟨d,P⟩:∃d:Array Value,d=(g.take (i * 3)).toArray++Builtin.zeroCells a.cells (n+m - i)++Builtin.zeroCells a.cells (G - (n+m)):=⟨_,rfl⟩
 rw[<- hG]at q L A;rw[<- P]at q;have D:d.size=G * 3:=by
  rw[P];simp only[Builtin.zeroCells,Array.size_append,Array.size_map,Array.size_range,nW,ZH,JY];omega
 have F:∀j,j < i * 3->d[j]?=g[j]?:=λj f=>by
  rw[P,Array.append_assoc,Array.getElem?_append_left (by simp[ZH,f]),List.getElem?_toArray,da,if_pos f]
 refine⟨d,G,L,A,D,F,?_⟩;have mixed:=m26;obtain⟨p,C⟩:∃p,p=w.drew.alloc (.cells d 65):=⟨_,rfl⟩
 rw[<- C]at q;have Y:∀j,j < (n+m) * 3->(p.cell? ⟨w.heap.size,j,O⟩).isSome=I:=λj f=>by
  rw[C,World.cell?_alloc_at (w:=w.drew) d _ w.heap.size j rfl,mE (by omega)];rfl
 have H:∀j,p.frozen? ⟨w.heap.size,j,O⟩=J:=λj=>by rw[C];exact World.frozen?_alloc_at (w:=w.drew) d _ w.heap.size j rfl
 have X:∀j v,w.cell? ⟨b,j,O⟩=Z v->p.cell? ⟨b,j,O⟩=Z v:=λj v h=>by rw[C,World.cell?_alloc_past (w:=w.drew) _ b j FC];exact h
 have V:∀j v,w.cell? ⟨r,j,O⟩=Z v->p.cell? ⟨r,j,O⟩=Z v:=λj v h=>by rw[C,World.cell?_alloc_past (w:=w.drew) _ r j T];exact h
 have ak1:∀(W:World),(∀x,W.cell? x=p.cell? x)->(∀x,W.frozen? x=p.frozen? x)->∀l B,(Builtin.copy_ #[25,25] l #[.slice (Z ⟨w.heap.size,i * 3,O⟩) (n+m - i) B,.slice (Z ⟨r,N,O⟩) m Q]).run Tryz.prog W=.ok (goInt m) (W.setCells w.heap.size (i * 3) k):=λW o y l B=>
  tH W _ _ l 65 3 w.heap.size (i * 3) (n+m - i) B ⟨r,N,O⟩ m Q m k Tryz.underlying25 Tryz.sizeOf65 (by simp only[Nat.min_def];split<;>omega) vL
   (λj v f=>by rw[Addr.add_lit,o];exact V _ v (vM j v f))
   (λj f=>by rw[o];exact Y _ (by omega)) (λj f=>by rw[y];exact H _) h1v
 have anF:G<=9223372036854775807:=by unfold maxLen at A;omega
 have hGi:¬(G=i):=by omega
 have anG:¬(G=i+m):=by omega
 have hci:¬(c=i):=by omega
 have U:b≠w.heap.size:=by omega
 have vK:(g.drop (i * 3)).length=(n - i) * 3:=by rw[bT,qL,tL]
 have K:∀(W:World),(∀x,W.cell? x=(p.setCells w.heap.size (i * 3) k).cell? x)->(∀x,W.frozen? x=(p.setCells w.heap.size (i * 3) k).frozen? x)->∀l B S,(Builtin.copy_ #[25,25] l #[.slice (Z ⟨w.heap.size,(i+m) * 3,O⟩) (n+m - (i+m)) B,.slice (Z ⟨b,off+i * 3,O⟩) (n - i) S]).run Tryz.prog W=.ok (goInt ((n - i:Nat):Int)) (W.setCells w.heap.size ((i+m) * 3) (g.drop (i * 3))):=λW o y l B S=>
  tH W _ _ l 65 3 w.heap.size ((i+m) * 3) (n+m - (i+m)) B ⟨b,off+i * 3,O⟩ (n - i) S (n - i) (g.drop (i * 3)) Tryz.underlying25 Tryz.sizeOf65 (by simp only[Nat.min_def];split<;>omega) vK
   (λj v f=>by
    rw[Addr.add_lit,o,World.cell?_setCells_out _ _ _ _ _ (λh _=>absurd h U),cV];exact X _ v (R (i * 3+j) v (by rwa [jA]at f)))
   (λj f=>by rw[o];exact L9 _ _ _ _ (λt ht=>Y _ (by omega)) _ (Y _ (by omega)))
   (λj f=>by rw[y,World.frozen?_setCells];exact H _) (λv hv=>h1c v (iD hv))
 subst C;have hE1:∀x,((w.alloc (.cells d 65)).drew).cell? x=(w.drew.alloc (.cells d 65)).cell? x:=λx=>rfl;have hE2:∀x,((w.alloc (.cells d 65)).drew).frozen? x=(w.drew.alloc (.cells d 65)).frozen? x:=λx=>rfl;have hF1:∀x,(((w.alloc (.cells d 65)).drew.setCells w.heap.size (i * 3) k).drew).cell? x=((w.drew.alloc (.cells d 65)).setCells w.heap.size (i * 3) k).cell? x:=λx=>rfl;have hF2:∀x,(((w.alloc (.cells d 65)).drew.setCells w.heap.size (i * 3) k).drew).frozen? x=((w.drew.alloc (.cells d 65)).setCells w.heap.size (i * 3) k).frozen? x:=λx=>rfl;have hw1:IntKind.i64.wrap ((i:Int)+(m:Int))=(i:Int)+(m:Int):=by rw[IntKind.wrap_i64];omega
 have BZ:(0:Int)<=(i:Int)+(m:Int):=by omega
 have tQ:i<=n:=by omega
 have htn:((i:Int)+(m:Int)).toNat=i+m:=by omega
 have hb3:(i:Int)<=(n:Int):=by omega
 clear By s hold P hG D F
 go_enter Tryz.func220,Tryz.ntmps220
 go_wp2_with (first
  |(at_builtin;refine Lib.wpList_append_run _ rfl _ _ _ _ rfl _ _ rfl rfl _ _ (q _) ?_)
  |(at_builtin;refine rj _ rfl _ _ 25 25 rfl _ _ rfl rfl (ak1 _ hE1 hE2 _ _) ?_)
  |(at_builtin;refine rj _ rfl _ _ 25 25 rfl _ _ rfl rfl (K _ (λ_=>rfl) (λ_=>rfl) _ _ _) ?_))
 go_region_law_o (refine BN rfl _ _ 25 25 rfl (.slice (Z ⟨w.heap.size,(i+m) * 3,O⟩) (n+m - (i+m)) (G - (i+m))) (.slice (Z ⟨b,off+i * 3,O⟩) (n - i) (c - i)) (by simp[Act.eval,Act.put]) (by simp[Act.eval,Act.put]) (K _ hF1 hF2 3 (G - (i+m)) (c - i)) ?_)
 go_wp2
 go_ret
 exact⟨rfl,rfl⟩
theorem jH{g:Nat}{T:TypeId}:∀(b:M Value) {w:World} {a:M Value} (i:Nat),kQ w g T a->i+b.length<=a.length->w.setCells g i b=gM w g (.cells (cF a i b).toArray T (0,0))
 |[],w,a,i,h,c=>by
  have:cF a i []=a:=by simp[cF]
  rw[this,Hz h];rfl
 |v::b,w,a,i,h,c=>by
  simp only[aE]at c;rw[World.setCells,BK h,jH b (i+1) (h.iw T _) (by rw[qa];omega),vq _ _ _ _ (by omega),sn]
theorem mV(b:M Value)(i:Nat)(a:M Value)(h:i<=b.length):(cF b i a).take (i+a.length)=b.take i++a:=by
 unfold cF;rw[k9 (by simp;omega),gT (by simp;omega)]
theorem LQ{g:Nat}{w a:World}(h:FY g w.drew a):FY g w a:=⟨h.os,h.tape,h.output,h.size,h.block,h.fz⟩
theorem Uk{B:Nat}{w a:World}(h:Bk B w.drew a):Bk B w a:=⟨⟨h.os,h.tape,h.output,h.size,h.block⟩,h.FP⟩
theorem x9005:OP Tryz.prog 161 J:=by
 intro w A n c a b m V h B U q Y j X y Nv P N o;rw[if_neg (by simp)]at o;obtain⟨G,rfl,rfl⟩:=o;have R:B=[]:=ck (by omega);subst R;rcases N with ⟨rfl,rfl⟩|⟨g,T,d,rfl,hB,D,x⟩
 ·omega
 unfold maxLen at q;obtain⟨C,H,S⟩:=Y6 w g 0 n c a b h y (λt v i=>pn hB x t v i) (λt=>hB.frozen _) (λv i=>Er (P v (by simp[i]))) G j U (by omega);refine S.mono λe W K=>?_;obtain⟨rfl,rfl⟩:=K;simp only[bD];have L:n * 3<=d.length:=by omega
 have F:(h.drop (b * 3)).length=(n - b) * 3:=by rw[bT,y,tL]
 have f:kQ w.drew g T d:=hB;rw[jH _ _ f (by omega)];have k:=f.iw T (cF d (a * 3) (h.drop (b * 3)));have l:(cF d (a * 3) (h.drop (b * 3))).length=d.length:=jS (by omega);rw[jH _ _ k (by omega),sn];have p:a+(n - b)=n - (b - a)+0:=by omega
 refine⟨g,c,T,_,by rw[p],by omega,q,f.iw T _,by rw[jS (by omega),l,D],?_,.inl ⟨rfl,LQ (FY.gM _ _ _ _)⟩⟩;rw[<- p,aQ];have Q:=mV (cF d (a * 3) (h.drop (b * 3))) ((a+(n - b)) * 3) C (by omega);have s:=mV d (a * 3) (h.drop (b * 3)) (by omega);rw[F,<- lj]at s;have r:=congrArg (List.take ((a+(n - b)) * 3)) Q;rw[kP,ei (by omega),k9 (by rw[bj,l];omega),kP,Nat.min_self,s]at r;rw[r,<- x,kP,ei (by omega)]
theorem x9006:OP Tryz.prog 220 I:=by
 intro w A n c a b m zv h f Fl hc Vr hbn YB F D h1 hA hz;rw[if_pos rfl]at hz;obtain⟨rfl,hm,q,cc,Tz,us,rfl,y,ZI,hut,hmc,hqg⟩:=hz;unfold room at YB;have x:∀j v,f[j]?=Z v->w.cell? ⟨q,0+j,O⟩=Z v:=λj v p=>pn y hut j v p;have Y:∀v∈h,v.oneCell'=I:=λv p=>Er (h1 v (by simp[p]));have B:∀v∈f,v.oneCell'=I:=λv p=>Er (h1 v (by simp[p]));have hnn:n - (a - a)+m=n+m:=by omega
 rw[hnn];have aic:∀{us:M Value} {o:World},kQ o w.heap.size 65 us->o.heap.size=w.heap.size+1->Bk w.heap.size w o->∀G,n+m<=G->G<=maxLen->us.length=G * 3->us.take ((n+m) * 3)=h.take (a * 3)++f++h.drop (a * 3)->
   ∃g' c' T' H,Ending.returned (.slice (Z ⟨w.heap.size,0,O⟩) (n+m) G)=.returned (.slice (Z ⟨g',0,O⟩) (n+m) c')/\n+m<=c'/\c'<=maxLen/\kQ o g' T' H/\H.length=c' * 3/\H.take ((n+m) * 3)=h.take (a * 3)++f++h.drop (a * 3)/\((A=Z ⟨g',0,O⟩/\FY g' w o)\/(g'=w.heap.size/\o.heap.size=w.heap.size+1/\Bk w.heap.size w o)):=
  λhB hs hb G h2 h3 h4 h5=>⟨_,G,65,_,rfl,h2,h3,hB,h4,h5,.inr ⟨rfl,hs,hb⟩⟩
 rcases dU c (n+m) with K|K
 ·
  rcases dU a n with r|r
  ·rcases hA with ⟨rfl,rfl⟩|⟨g,T,l,rfl,hB,vL,R⟩
   ·omega
   obtain⟨i,G,r1,r2,r3,r4,r5⟩:=ZP g 0 n c a q 0 m cc h f w r hm Fl K YB F D (λt v p=>pn hB R t v p) x Y B;refine r5.mono λe o L=>?_;obtain⟨rfl,rfl⟩:=L;have s:kQ (w.alloc (.cells i 65)).drew w.heap.size 65 i.toList:=by
    have:=kQ.new w 65 i.toList;rw[Array.toArray_toList]at this;exact this
   have vK:(h.drop (a * 3)).length=(n - a) * 3:=by rw[bT,F,tL]
   have hRl:i.toList.length=G * 3:=by rw[eW,r3]
   rw[jH _ _ s (by omega)];have Q:=s.iw 65 (cF i.toList (a * 3) f);have yJ:(cF i.toList (a * 3) f).length=i.toList.length:=jS (by omega);have agS:kQ (gM (w.alloc (.cells i 65)).drew w.heap.size (.cells (cF i.toList (a * 3) f).toArray 65 (0,0))).drew w.heap.size 65 (cF i.toList (a * 3) f):=Q;rw[jH _ _ agS (by omega)];have hB2:=agS.iw 65 (cF (cF i.toList (a * 3) f) ((a+m) * 3) (h.drop (a * 3)));refine aic hB2 (by rw[gm];show (gM _ _ _).heap.size=_;rw[gm];exact size_alloc w _) (Rd (Kb (vC w i 65).drew (Kc _) (by show w.heap.size<=(w.alloc _).heap.size;rw[size_alloc];omega)) (by
    have W:=FY.gM (w.alloc (.cells i 65)).drew w.heap.size (cF i.toList (a * 3) f).toArray 65;have S:=FY.gM (gM (w.alloc (.cells i 65)).drew w.heap.size (.cells (cF i.toList (a * 3) f).toArray 65 (0,0))).drew w.heap.size (cF (cF i.toList (a * 3) f) ((a+m) * 3) (h.drop (a * 3))).toArray 65;exact⟨S.os.trans W.os,S.tape.trans W.tape,S.output.trans W.output,S.size.trans W.size,λk hk=>(S.block k hk).trans (W.block k hk),S.fz⟩) (au _)) G r1 r2 (by rw[jS (by omega),yJ,hRl]) ?_
   have C:=mV (cF i.toList (a * 3) f) ((a+m) * 3) (h.drop (a * 3)) (by omega);have e2:=mV i.toList (a * 3) f (by omega);rw[vK,<- lj,show a+m+(n - a)=n+m by omega]at C;rw[D,<- lj]at e2;rw[C,e2]
   congr 2
   apply fi
   intro j;rw[da,da];split
   ·rw[Array.getElem?_toList];exact r4 j (by assumption)
   ·rfl
  ·have N:a=n:=by omega
   subst N;obtain⟨d,hz,r5⟩:=VR A a c q 0 m cc h f w hm Fl K YB F D (λhn=>by
     rcases hA with ⟨_,rfl⟩|⟨g,T,l,hg,_⟩
     ·omega
     ·rw[hn]at hg;cases hg) (λad X j v p=>by
     rcases hA with ⟨rfl,_⟩|⟨g,T,l,rfl,hB,vL,R⟩
     ·cases X
     ·cases X;rw[Addr.add_lit];exact pn hB R j v p) x B
   have JY:d.cells.size=3:=by cases hz;rfl
   refine r5.mono λe o L=>?_;obtain⟨rfl,rfl⟩:=L;have hG1:=grownCap_ge w (a+m) c 65;have hG2:=grownCap_le_maxLen w (a+m) c 65 (by unfold maxLen;omega);have s:=kQ.new w.drew 65 ((h++f)++(Builtin.zeroCells d.cells (grownCap w (a+m) c 65 - (a+m))).toList);have he:((h++f)++(Builtin.zeroCells d.cells (grownCap w (a+m) c 65 - (a+m))).toList).toArray=(h++f).toArray++Builtin.zeroCells d.cells (grownCap w (a+m) c 65 - (a+m)):=by simp
   rw[he]at s;refine aic s (size_alloc _ _) (Uk (vC w.drew _ 65)) _ hG1 hG2 ?_ ?_
   ·simp only[aR,eW,Builtin.zeroCells,Array.size_map,Array.size_range,JY,F,D];omega
   ·rw[k9 (by simp;omega),gT (by simp;omega),<- F,bN,fC,aQ]
 ·
  rcases hA with ⟨rfl,rfl⟩|⟨g,T,l,rfl,hB,vL,R⟩
  ·omega
  unfold maxLen at hc;have alj:=hqg g rfl;have vK:(h.drop (a * 3)).length=(n - a) * 3:=by rw[bT,F,tL]
  have BC:∀j,j < c * 3->(w.cell? ⟨g,0+j,O⟩).isSome=I:=λj hj=>by rw[bD,hB.cell,fD (by omega)];rfl
  rcases dU a n with r|r
  ·have U:∀{g T l},kQ w g T l->w.shape? g=Z (T,l.length):=λ{g T l} hB=>by
    unfold kQ at hB;simp[World.shape?,hB]
   refine (RY g 0 n c a q 0 m cc h f w r hm K (by omega) alj F D (λt v p=>pn hB R t v p) (λj hj=>BC j (by omega)) (λj=>hB.frozen _) x Y B _ _ _ _ (U y) (U hB) (by omega) (y.frozen _) (y.frozen _)).mono λe o L=>?_;obtain⟨rfl,rfl⟩:=L;simp only[bD];have P:kQ w.drew g T l:=hB;rw[jH _ _ P (by omega)];have Q:=P.iw T (cF l ((a+m) * 3) (h.drop (a * 3)));have yJ:(cF l ((a+m) * 3) (h.drop (a * 3))).length=l.length:=jS (by omega);rw[jH _ _ Q (by omega),sn];refine⟨g,c,T,_,rfl,K,hc,P.iw T _,by rw[jS (by omega),yJ,vL],?_,.inl ⟨rfl,LQ (FY.gM _ _ _ _)⟩⟩;have C:=mV l ((a+m) * 3) (h.drop (a * 3)) (by omega);rw[vK,<- lj,show a+m+(n - a)=n+m by omega]at C;generalize hV:cF l ((a+m) * 3) (h.drop (a * 3))=V at *;have e2:V.take (a * 3)=h.take (a * 3):=by
    have:=congrArg (List.take (a * 3)) C;rw[kP,ei (by omega),k9 (by simp;omega),kP,ei (by omega)]at this;rw[this,<- R,kP,ei (by omega)]
   have e3:(V.drop ((a+m) * 3)).take ((n - a) * 3)=h.drop (a * 3):=by
    have:=congrArg (List.drop ((a+m) * 3)) C;rw[List.drop_take,List.drop_left' (by rw[bj];omega)]at this;rw[<- this]
    congr 1
    omega
   unfold cF;rw[D,show a * 3+m * 3=(a+m) * 3 by omega,List.take_append,gT (by simp;omega)];have e4:(V.take (a * 3)++f).length=(a+m) * 3:=by simp[D];omega
   rw[e4,show (n+m) * 3 - (a+m) * 3=(n - a) * 3 by omega,e3,e2]
  ·have N:a=n:=by omega
   subst N;refine (VT g 0 a c q 0 m cc f w hm K (by omega) D (λj hj=>by rw[bD,show a * 3+j=0+(a * 3+j) by omega];exact BC _ (by omega)) (λj=>hB.frozen _) x B).mono λe o L=>?_;obtain⟨rfl,rfl⟩:=L;simp only[bD];rw[jH _ _ hB (by omega)];refine⟨g,c,T,_,rfl,K,hc,hB.iw T _,by rw[jS (by omega),vL],?_,.inl ⟨rfl,FY.gM _ _ _ _⟩⟩;have C:=mV l (a * 3) f (by omega);rw[D,<- lj,R]at C;rw[C,<- F,bN,fC,aQ]
end
end Go.Proofs.YthlpjklbafakfaaGreatDoor
