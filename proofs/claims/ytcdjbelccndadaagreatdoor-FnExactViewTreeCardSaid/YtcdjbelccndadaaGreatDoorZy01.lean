/- Part of the proof: a machine over plain data, its proof, the functions of the program run on symbols, what they answer. Condition: none. -/
import Derived.WalkKit
import Derived.WalkSpells
import Derived.WalkLawsBesides
import Derived.Deep.LoopGhost
import Derived.OrdersHeld
import Derived.Lib.ItoaNum
import Derived.Lib.Bytealg
import Derived.Lib.LaidTab
import Derived.Laws.Tables
set_option linter.unusedVariables false
set_option linter.unusedSimpArgs false
open Array renaming length_toList->eK,toList_map->mT,replicate->nW,getElem?_eq_getElem->pS,getElem?_eq_none->sH
open Bool renaming and_eq_true->ab,false_eq_true->av,not_eq_true'->cq,eq_iff_iff->dC,or_eq_true->dD
open Decidable renaming em->gp
open Go renaming sizeOf->kA
open Int renaming neg_neg->qE
open List renaming cons_append->ai,nil_append->ao,length_map->au,mem_cons->ay,length_cons->az,replicate->aE,append_nil->aG,getElem?_eq_some_iff->aI,length_nil->aK,length_append->aL,mem_append->aM,map_cons->aQ,all_eq_true->aS,take_length->aU,length_take->a_,take_append_drop->bc,append_assoc->bh,nodup_append->bj,mem_of_mem_take->bN,mem_map->bQ,all_cons->bT,eq_nil_of_length_eq_zero->bU,nodup_cons->cd,getElem?_append_left->cl,length_eq_zero_iff->cm,getElem?_append_right->cr,mem_singleton->ct,take_succ_cons->cx,length_eq_one_iff->cJ,mem_of_getElem?->cK,mem_map_of_mem->cR,map_append->dd,flatten_cons->dh,getElem?_take->dt,map_nil->dB,ext_getElem?->ed,drop_of_length_le->eB,replicate_succ->fu,length_drop->gL,getElem?_drop->gV,getElem?_set->iz,mem_of_mem_drop->iB,getElem?_eq_none->jN,mem_or_eq_of_mem_set->kB,filter_filter->lD,take_left->lZ,take_one->nf,head?_drop->nX,drop_drop->pe,flatMap_cons->pU,size_toArray->pV,foldl_cons->tq,getElem?_append->uF
open List.cons renaming injEq->bw
open Nat renaming le_refl->aj,le_trans->aA,zero_add->bm,lt_of_lt_of_le->bp,lt_or_ge->cY,add_assoc->du,min_eq_left->dT,mul_le_mul_right->ew,add_zero->eD,blt->fk,succ_mul->iG,beq->jA,blt_eq->lE,add_sub_cancel_left->lJ,eq_of_beq_eq_true->mU,ble->nz,sub_self->oM,zero_mul->oN,zero_le->qH,add_mul->uK
open Ne renaming symm->kD
open Option renaming map_eq_some_iff->ad,isSome_iff_exists->bF,bind_some->cO,isNone_iff_eq_none->po
open Option.some renaming injEq->aa,inj->eM
open Prod renaming fst->bG,snd->pf
open Prod.mk renaming injEq->ak
open UInt8 renaming ofNat->cL
namespace Go.Proofs.YtcdjbelccndadaaGreatDoor
section
open Go.RowKit
inductive V where
 |int (n:Int)
 |bool (b:Bool)
 |str (s:ByteArray)
 |list (xs:List V)
 |agg (fs:List V)
mutual
def V.cnt:V->Nat
 | .int _=>1
 | .bool _=>1
 | .str _=>1
 | .list xs=>V.Xr xs+1
 | .agg fs=>V.Xr fs+1
def V.Xr:List V->Nat
 |[]=>0
 |f::fs=>V.cnt f+V.Xr fs+1
end
def gy(w:World)(b o:Nat)(cs:List Value):Prop:=∀j u,cs[j]?=some u->w.cell? ⟨b,o+j,none⟩=some u
theorem nI(b o n:Nat):(⟨b,o,none⟩:Addr).add n=⟨b,o+n,none⟩:=by
 unfold Addr.add;split
 ·rename_i h;subst h;rfl
 ·rfl
theorem gy.cH{w w':World}{b o:Nat}{cs:List Value}(h:gy w b o cs)(hk:w'.heap[b]?=w.heap[b]?):gy w' b o cs:=by
 intro j u hu;rw[World.cell?_of_block (w:=w) hk];exact h j u hu
theorem gy.sub{w:World}{b o:Nat}{cs:List Value}(h:gy w b o cs)(j k:Nat):gy w b (o+j) ((cs.drop j).take k):=by
 intro i u hu;rw[dt]at hu
 split at hu
 ·rw[gV]at hu;rw[du];exact h _ u hu
 ·cases hu
theorem Dp{w:World}{b:Nat}{o:Obj}(h:w.heap[b]?=some o):b < w.heap.size:=by
 rcases cY b w.heap.size with hl|hl
 ·exact hl
 ·simp[sH hl]at h
theorem Fo{w w':World}{b:Nat}(hb:b < w.heap.size)(hk:w'.heap[b]?=w.heap[b]?):b < w'.heap.size:=by
 rw[pS hb]at hk;exact Dp hk
structure DX (B:Nat) (w w':World):Prop extends Below B w w' where
 KJ:∀g,B<=g->∀o,w'.frozen? ⟨g,o,none⟩=false
theorem tW{w:World}{g:Nat}(h:w.heap.size<=g)(o:Nat):w.frozen? ⟨g,o,none⟩=false:=by
 simp[World.frozen?,sH h]
theorem Ps(w:World):DX w.heap.size w w:=⟨Below.refl _ _,λ_ hg o=>tW hg o⟩
theorem DX.drew{B:Nat}{a w:World}(h:DX B a w):DX B a w.drew:=⟨h.toBelow.drew,h.KJ⟩
theorem Pr{B:Nat}{a w w':World}(h:DX B a w)(hk:DX w.heap.size w w')(hB:B<=w.heap.size):DX B a w':=by
 refine⟨h.toBelow.trans (hk.toBelow.mono hB),λg hg o=>?_⟩;rcases cY g w.heap.size with hl|hl
 ·rw[World.frozen?_of_block (w:=w) (hk.block g hl)];exact h.KJ g hg o
 ·exact hk.KJ g hl o
theorem Cz(w:World)(cs:Array Value)(t:TypeId):DX w.heap.size w (w.alloc (.cells cs t)):=by
 refine⟨(Below.refl _ _).alloc (aj _) _,λg hg o=>?_⟩;by_cases e:g=w.heap.size
 ·subst e;unfold World.frozen?;simp only[heap_alloc_new];simp
 ·exact tW (by simp;omega) o
def kW(w:World)(g:Nat)(t:TypeId)(cs:List Value):Prop:=w.heap[g]?=some (.cells cs.toArray t (0,0))
def gk(w:World)(g:Nat)(o:Obj):World:={w with heap:=w.heap.setIfInBounds g o }
section
variable {w w':World} {g:Nat} {t:TypeId} {cs:List Value}
theorem kW.lt(h:kW w g t cs):g < w.heap.size:=Dp h
theorem kW.cell(h:kW w g t cs)(i:Nat):w.cell? ⟨g,i,none⟩=cs[i]?:=by
 unfold kW at h;simp[World.cell?,h]
theorem kW.J0(h:kW w g t cs):gy w g 0 cs:=by
 intro j u hu;rw[bm,h.cell,hu]
theorem kW.frozen(h:kW w g t cs)(i:Nat):w.frozen? ⟨g,i,none⟩=false:=by
 unfold kW at h;simp[World.frozen?,h]
theorem kW.new(w:World)(t:TypeId)(cs:List Value):kW (w.alloc (.cells cs.toArray t)) w.heap.size t cs:=by
 unfold kW;exact heap_alloc_new w _
theorem kW.cH(h:kW w g t cs)(hk:w'.heap[g]?=w.heap[g]?):kW w' g t cs:=hk.trans h
theorem kW.alloc(h:kW w g t cs)(o:Obj):kW (w.alloc o) g t cs:=h.cH (Below.heap_alloc w o g h.lt)
theorem Nz(w:World)(g:Nat)(o:Obj)(k:Nat)(h:k≠g):(gk w g o).heap[k]?=w.heap[k]?:=by
 simp[gk,Array.getElem?_setIfInBounds_ne (kD h)]
theorem fG(w:World)(g:Nat)(o:Obj):(gk w g o).heap.size=w.heap.size:=by simp[gk]
theorem kW.ky(h:kW w g t cs)(t':TypeId)(iC:List Value):kW (gk w g (.cells iC.toArray t' (0,0))) g t' iC:=by
 unfold kW gk;simp[h.lt]
theorem Iz(h:kW w g t cs)(i:Nat)(v:Value):w.setCell ⟨g,i,none⟩ v=gk w g (.cells (cs.set i v).toArray t (0,0)):=by
 unfold World.setCell gk
 congr 1
 apply Array.ext
 ·simp
 ·intro k h1 h2;simp only[Array.size_modify]at h1;simp only[Array.getElem_modify];split
  ·rename_i e;subst e;have hg:w.heap[g]'h1=.cells cs.toArray t (0,0):=by
    have:=h;unfold kW at this;rw[pS h1]at this;exact eM this
   rw[hg];simp
  ·rename_i e;rw[Array.getElem_setIfInBounds_ne _ e]
end
theorem kW.drew{w:World}{g:Nat}{t:TypeId}{cs:List Value}(h:kW w g t cs):kW w.drew g t cs:=h
theorem size_alloc(w:World)(o:Obj):(w.alloc o).heap.size=w.heap.size+1:=by simp
end
section
open Go.RowKit
abbrev Fm:=Nat->Value
def yi(f:Fm)(d:Nat)(v:Value):Fm:=λi=>cond (jA i d) v (f i)
def fr(f:Fm)(N:Nat):Act:=⟨Array.ofFn (λi:Fin N=>f i.val),[]⟩
theorem qg(f:Fm)(N d:Nat)(v:Value):(fr f N).put (some d) v=fr (yi f d v) N:=by
 have e:(Array.ofFn (λi:Fin N=>f i.val)).setIfInBounds d v=Array.ofFn (λi:Fin N=>yi f d v i.val):=by
  apply Array.ext
  ·simp
  ·intro i h1 h2;simp only[Array.size_ofFn]at h2;rw[Array.getElem_setIfInBounds (by simpa using h2)];simp only[Array.getElem_ofFn,yi];by_cases h:d=i
   ·subst h;simp
   ·have h':jA i d=false:=by
     cases hb:jA i d
     ·rfl
     ·exact absurd (mU hb).symm h
    simp[h,h']
 exact congrArg (λt=>Act.mk t []) e
theorem yO(f:Fm){N d:Nat}(hd:d < N):(fr f N).eval (.tmp d)=f d:=by
 simp[fr,Act.eval,hd]
theorem et{f:Fm}{N d:Nat}{v:Value}(h:f d=v)(hd:fk d N=true:=by rfl):(fr f N).eval (.tmp d)=v:=by
 rw[yO f (by simpa using hd)];exact h
theorem ec{f:Fm}{N:Nat}{v:Value}:(fr f N).eval (.const v)=v:=rfl
def Oy(N:Nat)(Kn:Fm->World->Prop)(Ke:Nat->Fm->World->Prop)(Kr:Fm->World->Prop):Exit->Act->World->Prop
 | .normal,a,w=>∃f,a=fr f N/\Kn f w
 | .exit id,a,w=>∃f,a=fr f N/\Ke id f w
 | .ret,a,w=>∃f,a=fr f N/\Kr f w
 |_,_,_=>False
def W(P:Program)(N:Nat)(c:Code)(Kn:Fm->World->Prop)(Ke:Nat->Fm->World->Prop)(Kr:Fm->World->Prop)(f:Fm)(w:World):Prop:=
 c.wp P (Oy N Kn Ke Kr) (fr f N) w
def Ls(P:Program)(N:Nat)(ops:Array Oper)(Kn:Fm->World->Prop)(rest:List Oper)(f:Fm)(w:World):Prop:=
 wpList P ops (Oy N Kn (λ_ _ _=>False) (λ_ _=>False)) rest (fr f N) w
def og(N:Nat)(ops:Array Oper)(f:Fm)(g:Option (Nat×Bool)):Prop:=
 Region.wanted {(default:Oper) with guard:=g } (yielded ops (fr f N).tmps)=true
theorem wn{N:Nat}{ops:Array Oper}{f:Fm}:og N ops f none:=rfl
theorem BV{N:Nat}{ops:Array Oper}{f:Fm}{j dj:Nat}(hj:(ops[j]?).bind (·.dst)=some dj)(hd:fk dj N=true)(b:Bool)(hb:f dj=.bool b):yielded ops (fr f N).tmps j=some b:=by
 have ig:dj < N:=by simpa using hd
 simp[yielded,hj,fr,ig,hb]
theorem K1{N:Nat}{ops:Array Oper}{f:Fm}{j dj:Nat}(hj:(ops[j]?).bind (·.dst)=some dj)(hd:fk dj N=true)(hb:f dj=undef):yielded ops (fr f N).tmps j=none:=by
 have ig:dj < N:=by simpa using hd
 simp[yielded,hj,fr,ig,hb,undef]
theorem wy{N:Nat}{ops:Array Oper}{f:Fm}{j dj:Nat}{want:Bool}(hb:f dj=.bool want)(hj:(ops[j]?).bind (·.dst)=some dj:=by rfl)(hd:fk dj N=true:=by rfl):og N ops f (some (j,want)):=by
 simp[og,Region.wanted,BV hj hd want hb]
theorem og.to{N:Nat}{ops:Array Oper}{f:Fm}{gd:Option (Nat×Bool)}(h:og N ops f gd)(dst:Option Tmp)(op:Op)(ty:TypeId)(pos:String)(aft:Array Edge):Region.wanted ⟨dst,op,ty,pos,aft,gd⟩ (yielded ops (fr f N).tmps)=true:=h
def gW(N:Nat)(ops:Array Oper)(f:Fm)(g:Option (Nat×Bool)):Prop:=
 Region.wanted {(default:Oper) with guard:=g } (yielded ops (fr f N).tmps)=false
theorem gW.to{N:Nat}{ops:Array Oper}{f:Fm}{gd:Option (Nat×Bool)}(h:gW N ops f gd)(dst:Option Tmp)(op:Op)(ty:TypeId)(pos:String)(aft:Array Edge):¬Region.wanted ⟨dst,op,ty,pos,aft,gd⟩ (yielded ops (fr f N).tmps)=true:=by
 have h':Region.wanted ⟨dst,op,ty,pos,aft,gd⟩ (yielded ops (fr f N).tmps)=false:=h;rw[h'];simp
theorem wx{N:Nat}{ops:Array Oper}{f:Fm}{j dj:Nat}{want:Bool}(hb:f dj=.bool (!want))(hj:(ops[j]?).bind (·.dst)=some dj:=by rfl)(hd:fk dj N=true:=by rfl):gW N ops f (some (j,want)):=by
 simp[gW,Region.wanted,BV hj hd _ hb]
theorem wu{N:Nat}{ops:Array Oper}{f:Fm}{j dj:Nat}{want:Bool}(hb:f dj=undef)(hj:(ops[j]?).bind (·.dst)=some dj:=by rfl)(hd:fk dj N=true:=by rfl):gW N ops f (some (j,want)):=by
 simp[gW,Region.wanted,K1 hj hd hb]
section rules
variable {P:Program} {N:Nat} {Kn:Fm->World->Prop} {Ke:Nat->Fm->World->Prop} {Kr:Fm->World->Prop} {f:Fm} {w:World}
theorem ir{x y:Code}(h:W P N x (λf w=>W P N y Kn Ke Kr f w) Ke Kr f w):W P N (.seq x y) Kn Ke Kr f w:=by
 refine wp_seq (wp_mono h ?_);intro e a w hq;cases e with
 |normal=>obtain⟨f',rfl,hk⟩:=hq;exact hk
 |exit id=>exact hq
 |ret=>exact hq
 |goto l=>exact hq.elim
 |panic c=>exact hq.elim
 |outgrown=>exact hq.elim
theorem uC(h:Kn f w):W P N .skip Kn Ke Kr f w:=wp_skip ⟨f,rfl,h⟩
theorem DS(h:Kr f w):W P N .ret Kn Ke Kr f w:=wp_ret ⟨f,rfl,h⟩
theorem F7{id:Nat}(h:Ke id f w):W P N (.exit id) Kn Ke Kr f w:=wp_exit ⟨f,rfl,h⟩
theorem xz{c:Operand}{x y:Code}(hc:(fr f N).eval c=.bool true)(h:W P N x Kn Ke Kr f w):W P N (.cond c x y) Kn Ke Kr f w:=wp_cond hc h
theorem uB{c:Operand}{x y:Code}(hc:(fr f N).eval c=.bool false)(h:W P N y Kn Ke Kr f w):W P N (.cond c x y) Kn Ke Kr f w:=wp_cond hc h
theorem tn{id:Nat}{c:Code}(h:W P N c Kn (λid' f w=>if id'=id then Kn f w else Ke id' f w) Kr f w):W P N (.block id c) Kn Ke Kr f w:=by
 refine wp_block (wp_mono h ?_);intro e a w hq;cases e with
 |normal=>exact hq
 |ret=>exact hq
 |exit id'=>
  obtain⟨f',rfl,hk⟩:=hq;simp only[Exit.inBlock]
  split at hk
  ·rename_i he;rw[if_pos he];exact⟨f',rfl,hk⟩
  ·rename_i he;rw[if_neg he];exact⟨f',rfl,hk⟩
 |goto l=>exact hq.elim
 |panic c=>exact hq.elim
 |outgrown=>exact hq.elim
theorem F8{c:Code}(I:Nat->Fm->World->Prop)(n0:Nat)(h0:I n0 f w)
  (round:∀n f w,I n f w->W P N c (λf' w'=>∃n',n' < n/\I n' f' w') Ke Kr f w):W P N (.loop c) Kn Ke Kr f w:=by
 refine wp_loop_ghost (λn a w=>∃f,a=fr f N/\I n f w) n0 ⟨f,rfl,h0⟩ ?_
 rintro n a w ⟨f,rfl,hI⟩
 refine wp_mono (round n f w hI) ?_;intro e a w hq;cases e with
 |normal=>obtain⟨f',rfl,n',hn,hI'⟩:=hq;exact⟨n',hn,f',rfl,hI'⟩
 |exit id=>exact hq
 |ret=>exact hq
 |goto l=>exact hq.elim
 |panic c=>exact hq.elim
 |outgrown=>exact hq.elim
theorem dQ{id:Nat}{l:List Oper}(h:Ls P N l.toArray Kn l f w):W P N (.region id l.toArray false) Kn Ke Kr f w:=by
 refine wp_mono (wp_region_lit h) ?_;intro e a w hq;cases e with
 |normal=>exact hq
 |exit id=>obtain⟨_,_,h⟩:=hq;exact h.elim
 |ret=>obtain⟨_,_,h⟩:=hq;exact h.elim
 |goto l=>exact hq.elim
 |panic c=>exact hq.elim
 |outgrown=>exact hq.elim
theorem j_{c:Code}{Kn':Fm->World->Prop}{Ke':Nat->Fm->World->Prop}{Kr':Fm->World->Prop}(h:W P N c Kn Ke Kr f w)
  (hn:∀f w,Kn f w->Kn' f w) (he:∀i f w,Ke i f w->Ke' i f w) (hr:∀f w,Kr f w->Kr' f w):W P N c Kn' Ke' Kr' f w:=by
 refine wp_mono h ?_;intro e a w hq;cases e with
 |normal=>obtain⟨f',h1,h2⟩:=hq;exact⟨f',h1,hn _ _ h2⟩
 |exit id=>obtain⟨f',h1,h2⟩:=hq;exact⟨f',h1,he _ _ _ h2⟩
 |ret=>obtain⟨f',h1,h2⟩:=hq;exact⟨f',h1,hr _ _ h2⟩
 |goto l=>exact hq.elim
 |panic c=>exact hq.elim
 |outgrown=>exact hq.elim
variable {ops:Array Oper} {rest:List Oper} {d:Nat} {op:Op} {ty:TypeId} {pos:String} {aft:Array Edge} {gd:Option (Nat×Bool)}
theorem iJ(h:Kn f w):Ls P N ops Kn [] f w:=⟨f,rfl,h⟩
theorem wZ(hg:gW N ops f gd)(h:Ls P N ops Kn rest (yi f d undef) w):Ls P N ops Kn (⟨some d,op,ty,pos,aft,gd⟩::rest) f w:=by
 unfold Ls wpList;rw[if_neg (hg.to _ _ _ _ _),qg];exact h
theorem U5(hg:gW N ops f gd)(h:Ls P N ops Kn rest f w):Ls P N ops Kn (⟨none,op,ty,pos,aft,gd⟩::rest) f w:=by
 unfold Ls wpList;rw[if_neg (hg.to _ _ _ _ _)];exact h
theorem enter{g:FuncId}{fn:Func}{c:Code}{args:Array Value}{R:Ending->World->Prop}(hf:P.funcs[g]?=some fn)(hb:fn.body=some c)(hN:fn.ntmps=N)(ha:nz args.size N=true)
  (h:W P N c (λf w=>∃v,(results fn (fr f N).tmps).run P w=.ok v w/\R (.returned v) w) (λ_ _ _=>False) (λf w=>∃v,(results fn (fr f N).tmps).run P w=.ok v w/\R (.returned v) w) (λi=>args.getD i undef) w) :
  Calls P g args w R:=by
 refine calls_of_wp hf hb ?_;have e:({tmps:=args++nW (fn.ntmps - args.size) undef,defers:=[] }:Act)=fr (λi=>args.getD i undef) N:=by
  unfold fr
  congr 1
  have LF:args.size<=N:=by simpa using ha
  apply Array.ext
  ·simp[hN];omega
  ·intro i h1 h2;simp only[Array.getElem_ofFn,Array.getElem_append]
   split<;>simp_all
 rw[e];refine wp_mono h ?_;intro e a w hq;cases e with
 |normal=>obtain⟨f',rfl,v,h1,h2⟩:=hq;exact⟨rfl,v,h1,h2⟩
 |exit id=>obtain⟨_,_,h⟩:=hq;exact h.elim
 |ret=>obtain⟨f',rfl,v,h1,h2⟩:=hq;exact⟨rfl,v,h1,h2⟩
 |goto l=>exact hq.elim
 |panic c=>exact hq.elim
 |outgrown=>exact hq.elim
end rules
section drawn
variable {P:Program} {N:Nat} {Kn:Fm->World->Prop} {Ke:Nat->Fm->World->Prop} {Kr:Fm->World->Prop} {f:Fm} {w:World} {ops:Array Oper} {S:World->Prop}
def kQ(ops:Array Oper):List (Nat×Bool)->Array Bool->Bool
 |[],listed=>(Region.ready .any ops listed).isEmpty
 |(i,quiet)::s,listed=>(Region.ready .any ops listed).contains i && (if quiet then Region.free .any ops listed i else Region.ready .any ops listed ==[i]) && kQ ops s (listed.setIfInBounds i true)
def Dw(P:Program)(N:Nat)(ops:Array Oper)(S:World->Prop)(Kn:Fm->World->Prop):List (Nat×Bool)->Fm->World->Prop
 |[],f,w=>Kn f w
 |(i,quiet)::s,f,w=>if quiet then
   ∃o v f',ops[i]?=some o/\YieldsIf P ops S o v (fr f N)/\(fr f N).put o.dst v=fr f' N/\S w/\Dw P N ops S Kn s f' w
  else wpOp P ops (Oy N Kn (λ_ _ _=>False) (λ_ _=>False)) i (λa' w'=>S w'/\∃f',a'=fr f' N/\Dw P N ops S Kn s f' w') (fr f N) w
theorem GZ(hs:Region.noSelect ops=true):∀(s:List (Nat×Bool)) (listed:Array Bool) (f:Fm) (w:World),kQ ops s listed=true->Dw P N ops S Kn s f w->
  wpAnyH P .any ops (Oy N Kn (λ_ _ _=>False) (λ_ _=>False)) S s.length listed (fr f N) w
 |[],listed,f,w,hc,h=>by
  refine wpAnyH_done ?_ ⟨f,rfl,h⟩ _
  simpa [kQ] using hc
 |(i,true)::s,listed,f,w,hc,h=>by
  simp only[kQ,ab,if_true]at hc;obtain⟨⟨hr,hf⟩,LG⟩:=hc;simp only[Dw,if_true]at h;obtain⟨o,v,f',ho,hy,hp,hS,hd⟩:=h;refine wpAnyH_take ho hs hf hr (λc a w hq=>hq.elim) hy hS ?_;rw[hp];exact GZ hs s _ f' w LG hd
 |(i,false)::s,listed,f,w,hc,h=>by
  simp only[kQ,ab,av,if_false,beq_iff_eq]at hc;obtain⟨⟨_,hr⟩,LG⟩:=hc;simp only[Dw,av,if_false]at h;refine wpAnyH_all hr (by simp) ?_;intro j hj;simp only[ct]at hj;subst hj;refine wpOp_mono ?_ h
  rintro a' w' ⟨hS,f',rfl,hd⟩
  exact⟨hS,GZ hs s _ f' w' LG hd⟩
variable {s:List (Nat×Bool)} {i d:Nat} {op:Op} {ty:TypeId} {pos:String} {aft:Array Edge} {gd:Option (Nat×Bool)}
end drawn
section ops
variable {P:Program} {ρ:Operand->Value} {w:World} {dst:Option Tmp} {ty:TypeId} {pos:String} {aft:Array Edge} {gd:Option (Nat×Bool)}
theorem fP{x:Operand}{v:Value}(hx:ρ x=v):(execOp ρ ⟨dst,.move x,ty,pos,aft,gd⟩).run P w=.ok (.value v) w:=by
 subst hx;rfl
theorem hZ{x:Operand}{v:Value}(hx:ρ x=v):(execOp ρ ⟨dst,.assign x,ty,pos,aft,gd⟩).run P w=.ok (.value v) w:=by
 subst hx;rfl
theorem IS{c x y:Operand}{v:Value}(hc:ρ c=.bool true)(hx:ρ x=v):(execOp ρ ⟨dst,.pick c x y,ty,pos,aft,gd⟩).run P w=.ok (.value v) w:=by
 simp[execOp,hc,hx,asBool]
theorem IQ{c x y:Operand}{v:Value}(hc:ρ c=.bool false)(hy:ρ y=v):(execOp ρ ⟨dst,.pick c x y,ty,pos,aft,gd⟩).run P w=.ok (.value v) w:=by
 simp[execOp,hc,hy,asBool]
theorem Xb{x:Operand}{b:Bool}{T:TypeId}(hx:ρ x=.bool b):(execOp ρ ⟨dst,.unOp .not T x,ty,pos,aft,gd⟩).run P w=.ok (.value (.bool (!b))) w:=by
 simp[execOp,hx,Op.unary]
theorem Lb(a b:Int):(a ==b)=decide (a=b):=by
 by_cases h:a=b<;>simp[h]
section int
variable {x y:Operand} {a b:Int} {T T':TypeId} {ik:IntKind}
theorem IP{r:Bool}(hx:ρ x=.int ik a)(hy:ρ y=.int ik b)(hr:decide (a < b)=r):(execOp ρ ⟨dst,.binOp .lss T x y T',ty,pos,aft,gd⟩).run P w=.ok (.value (.bool r)) w:=by
 subst hr;simp[execOp,hx,hy,binOp,Op.intCmp,eqGuard]
theorem agd{r:Bool}(hx:ρ x=.int ik a)(hy:ρ y=.int ik b)(hr:decide (a<=b)=r):(execOp ρ ⟨dst,.binOp .leq T x y T',ty,pos,aft,gd⟩).run P w=.ok (.value (.bool r)) w:=by
 subst hr;simp[execOp,hx,hy,binOp,Op.intCmp,eqGuard]
theorem agc{r:Bool}(hx:ρ x=.int ik a)(hy:ρ y=.int ik b)(hr:decide (b < a)=r):(execOp ρ ⟨dst,.binOp .gtr T x y T',ty,pos,aft,gd⟩).run P w=.ok (.value (.bool r)) w:=by
 subst hr;simp[execOp,hx,hy,binOp,Op.intCmp,eqGuard]
theorem agb{r:Bool}(hx:ρ x=.int ik a)(hy:ρ y=.int ik b)(hr:decide (b<=a)=r):(execOp ρ ⟨dst,.binOp .geq T x y T',ty,pos,aft,gd⟩).run P w=.ok (.value (.bool r)) w:=by
 subst hr;simp[execOp,hx,hy,binOp,Op.intCmp,eqGuard]
theorem aga{r:Bool}(hx:ρ x=.int ik a)(hy:ρ y=.int ik b)(hr:decide (a=b)=r):(execOp ρ ⟨dst,.binOp .eql T x y T',ty,pos,aft,gd⟩).run P w=.ok (.value (.bool r)) w:=by
 subst hr;simp[execOp,hx,hy,binOp,Op.intCmp,eqGuard];exact Lb a b
theorem age{r:Bool}(hx:ρ x=.int ik a)(hy:ρ y=.int ik b)(hr:decide (a=b)=!r):(execOp ρ ⟨dst,.binOp .neq T x y T',ty,pos,aft,gd⟩).run P w=.ok (.value (.bool r)) w:=by
 have:r=!decide (a=b):=by rw[hr];simp
 subst this;simp[execOp,hx,hy,binOp,Op.intCmp,eqGuard,bne];exact Lb a b
theorem MW(hx:ρ x=.int .i64 a)(hy:ρ y=.int .i64 b)(hr:-9223372036854775808<=a+b/\a+b<=9223372036854775807):(execOp ρ ⟨dst,.binOp .add T x y T',ty,pos,aft,gd⟩).run P w=.ok (.value (.int .i64 (a+b))) w:=by
 simp[execOp,hx,hy,binOp,Op.intArith,eqGuard];exact IntWalk.i64_in _ (by omega)
end int
theorem mb(a b:ByteArray):(a.toList ==b.toList)=decide (a=b):=by
 rw[dC];simp only[beq_iff_eq,decide_eq_true_eq,ByteArray.toList_eq]
 constructor
 ·intro h;cases a;cases b;simp at h;simp[h]
 ·rintro rfl;rfl
section str
variable {x y:Operand} {a b:ByteArray} {T T':TypeId}
theorem aae{r:Bool}(hx:ρ x=.string a)(hy:ρ y=.string b)(hr:decide (a=b)=r):(execOp ρ ⟨dst,.binOp .eql T x y T',ty,pos,aft,gd⟩).run P w=.ok (.value (.bool r)) w:=by
 subst hr;simp[execOp,hx,hy,binOp,Op.stringOp,eqGuard,mb]
theorem aag{r:Bool}(hx:ρ x=.string a)(hy:ρ y=.string b)(hr:decide (a=b)=!r):(execOp ρ ⟨dst,.binOp .neq T x y T',ty,pos,aft,gd⟩).run P w=.ok (.value (.bool r)) w:=by
 have:r=!decide (a=b):=by rw[hr];simp
 subst this;simp[execOp,hx,hy,binOp,Op.stringOp,eqGuard,mb]
end str
section jt
variable {x y:Operand} {a b:Bool} {T T':TypeId}
theorem aac{r:Bool}(hT:P.underlying T=some .bool)(hx:ρ x=.bool a)(hy:ρ y=.bool b)(hr:decide (a=b)=r):(execOp ρ ⟨dst,.binOp .eql T x y T',ty,pos,aft,gd⟩).run P w=.ok (.value (.bool r)) w:=by
 have e:(a ==b)=r:=by subst hr;cases a<;>cases b<;>rfl
 simp[execOp,hx,hy,eqGuard,run_eql_bool w T a b hT,e]
theorem aad{r:Bool}(hT:P.underlying T=some .bool)(hx:ρ x=.bool a)(hy:ρ y=.bool b)(hr:decide (a=b)=!r):(execOp ρ ⟨dst,.binOp .neq T x y T',ty,pos,aft,gd⟩).run P w=.ok (.value (.bool r)) w:=by
 have e:(a ==b)=!r:=by cases a<;>cases b<;>cases r<;>simp_all
 simp[execOp,hx,hy,eqGuard,run_neq_bool w T a b hT,e]
end jt
theorem DT{x:Operand}{A:Option Addr}{n c:Nat}{T E:TypeId}(hU:P.underlying T=some (.slice E))(hx:ρ x=.slice A n c) :
  (execOp ρ ⟨dst,.call {callee:=.builtin .len,args:=#[x],argTypes:=#[T] },ty,pos,aft,gd⟩).run P w=.ok (.value (.int .i64 n)) w:=by
 simp[execOp,resolve,invoke,builtin,Builtin.len_,hx,run_underlying hU,goInt]
theorem aaf{x:Operand}{s:ByteArray}{T:TypeId}(hU:P.underlying T=some .string)(hx:ρ x=.string s) :
  (execOp ρ ⟨dst,.call {callee:=.builtin .len,args:=#[x],argTypes:=#[T] },ty,pos,aft,gd⟩).run P w=.ok (.value (.int .i64 s.size)) w:=by
 simp[execOp,resolve,invoke,builtin,Builtin.len_,hx,run_underlying hU,goInt]
theorem qC{x y:Operand}{b o n c:Nat}{i:Nat}{a:Int}{T E:TypeId}{k:Nat}(hU:P.underlying T=some (.slice E))(hS:∀w,(kA E).run P w=.ok k w)(hx:ρ x=.slice (some ⟨b,o,none⟩) n c)(hy:ρ y=.int .i64 a)(ha:a=(i:Int))(hi:i < n) :
  (execOp ρ ⟨dst,.indexAddr T x y,ty,pos,aft,gd⟩).run P w=.ok (.value (.pointer (some ⟨b,o+i * k,none⟩))) w:=by
 subst ha;have h0:(0:Int)<=(i:Int)/\(i:Int) < (n:Int):=by omega
 simp[execOp,Instr.indexAt,hx,hy,asIntOf,run_underlying hU,hS,nI,hi]
theorem To{x y:Operand}{A:Option Addr}{b o n c:Nat}{i:Nat}{a:Int}{T E:TypeId}{k:Nat}(hU:P.underlying T=some (.slice E))(hS:∀w,(kA E).run P w=.ok k w)(hx:ρ x=.slice A n c)(hA:A=some ⟨b,o,none⟩)(hy:ρ y=.int .i64 a)(ha:a=(i:Int))(hi:i < n) :
  (execOp ρ ⟨dst,.indexAddr T x y,ty,pos,aft,gd⟩).run P w=.ok (.value (.pointer (some ⟨b,o+i * k,none⟩))) w:=qC hU hS (hx.trans (by rw[hA])) hy ha hi
def da(s:ByteArray)(i:Nat):Int:=((s[i]?.getD 0).toNat:Int)
theorem pX(s:ByteArray)(i:Nat):0<=da s i/\da s i<=255:=by
 unfold da;have:=(s[i]?.getD 0).toNat_lt;omega
theorem Tp{x y:Operand}{s:ByteArray}{i:Nat}{a:Int}{T:TypeId}(hU:P.underlying T=some .string)(hx:ρ x=.string s)(hy:ρ y=.int .i64 a)(ha:a=(i:Int))(hi:i < s.size) :
  (execOp ρ ⟨dst,.index T x y,ty,pos,aft,gd⟩).run P w=.ok (.value (.int .u8 (da s i))) w:=by
 subst ha;simp[execOp,Instr.index,hx,hy,asIntOf,run_underlying hU,da,hi]
theorem MX{x:Operand}{b o j k:Nat}{T:TypeId}{fs:Array Field}{i:Nat}{fd:Field}(hU:P.underlying T=some (.struct fs))(hF:fs[i]?=some fd)(hS:∀w,(kA fd.type).run P w=.ok (k+1) w)(hj:fd.offset=j)(hx:ρ x=.pointer (some ⟨b,o,none⟩)) :
  (execOp ρ ⟨dst,.fieldAddr T x i,ty,pos,aft,gd⟩).run P w=.ok (.value (.pointer (some ⟨b,o+j,none⟩))) w:=by
 subst hj;simp[execOp,Instr.fieldAt,hx,Instr.sureAddr,run_underlying hU,hF,fieldPlace,hS,nI]
theorem K0{x y:Operand}{A:Option Addr}{n c h:Nat}{a:Int}{T E:TypeId}{k:Nat}(hU:P.underlying T=some (.slice E))(hS:∀w,(kA E).run P w=.ok k w)(hx:ρ x=.slice A n c)(hy:ρ y=.int .i64 a)(ha:a=(h:Int))(hh:h<=c) :
  (execOp ρ ⟨dst,.slice T x none (some y) none,ty,pos,aft,gd⟩).run P w=.ok (.value (.slice A h c)) w:=by
 subst ha;have e:A.map (λz=>z.add 0)=A:=by cases A<;>simp[Addr.add]
 simp[execOp,Instr.sliceAt,Instr.slice,Instr.sliceBounds,Instr.sliceBound,hx,hy,asIntOf,run_underlying hU,hS,hh,e]
def IX(ρ:Operand->Value):Option Operand->Nat->Nat->Prop
 |none,z,m=>m=z
 |some y,_,m=>ρ y=.int .i64 (m:Int)
theorem BU{x:Operand}{lo hi:Option Operand}{A:Option Addr}{n c l h:Nat}{T E:TypeId}{k:Nat}(hU:P.underlying T=some (.slice E))(hS:∀w,(kA E).run P w=.ok k w)(hx:ρ x=.slice A n c)(hl:IX ρ lo 0 l)(hh:IX ρ hi n h)(h1:l<=h)(h2:h<=c) :
  (execOp ρ ⟨dst,.slice T x lo hi none,ty,pos,aft,gd⟩).run P w=.ok (.value (.slice (if c=l then A else A.map (λz=>z.add (l * k))) (h - l) (c - l))) w:=by
 cases lo with
 |none=>
  cases hi with
  |none=>simp only[IX]at hl hh;subst hl hh;simp[execOp,Instr.sliceAt,Instr.slice,Instr.sliceBounds,hx,run_underlying hU,hS]
  |some z=>simp only[IX]at hl hh;subst hl;simp[execOp,Instr.sliceAt,Instr.slice,Instr.sliceBounds,Instr.sliceBound,hx,hh,asIntOf,run_underlying hU,hS,h2]
 |some y=>
  cases hi with
  |none=>simp only[IX]at hl hh;subst hh;simp[execOp,Instr.sliceAt,Instr.slice,Instr.sliceBounds,Instr.sliceBound,hx,hl,asIntOf,run_underlying hU,hS,h1]
  |some z=>simp only[IX]at hl hh;simp[execOp,Instr.sliceAt,Instr.slice,Instr.sliceBounds,Instr.sliceBound,hx,hl,hh,asIntOf,run_underlying hU,hS,h1,h2]
theorem Tq{x:Operand}{lo hi:Option Operand}{t:ByteArray}{l h:Nat}{T:TypeId}(hU:P.underlying T=some .string)(hx:ρ x=.string t)(hl:IX ρ lo 0 l)(hh:IX ρ hi t.size h)(h1:l<=h)(h2:h<=t.size) :
  (execOp ρ ⟨dst,.slice T x lo hi none,ty,pos,aft,gd⟩).run P w=.ok (.value (.string (t.extract l h))) w:=by
 cases lo with
 |none=>
  cases hi with
  |none=>simp only[IX]at hl hh;subst hl hh;simp[execOp,Instr.sliceAt,Instr.slice,Instr.sliceBounds,hx,run_underlying hU]
  |some z=>simp only[IX]at hl hh;subst hl;simp[execOp,Instr.sliceAt,Instr.slice,Instr.sliceBounds,Instr.sliceBound,hx,hh,asIntOf,run_underlying hU,h2]
 |some y=>
  cases hi with
  |none=>simp only[IX]at hl hh;subst hh;simp[execOp,Instr.sliceAt,Instr.slice,Instr.sliceBounds,Instr.sliceBound,hx,hl,asIntOf,run_underlying hU,h1]
  |some z=>simp only[IX]at hl hh;simp[execOp,Instr.sliceAt,Instr.slice,Instr.sliceBounds,Instr.sliceBound,hx,hl,hh,asIntOf,run_underlying hU,h1,h2]
theorem F_{x:Operand}{b o:Nat}{T:TypeId}{v:Value}(hA:∀w,(isAgg T).run P w=.ok false w)(hx:ρ x=.pointer (some ⟨b,o,none⟩))(hc:w.cell? ⟨b,o,none⟩=some v) :
  (execOp ρ ⟨dst,.load T x,ty,pos,aft,gd⟩).run P w=.ok (.value v) w:=by
 simp[execOp,Instr.loadAt,hx,Instr.sureAddr,loadVar,hA,load,Sem.run,hc]
theorem run_loadCellsFrom{b o:Nat}:∀(cs:List Value) (i:Nat) (acc:Array Value),gy w b (o+i) cs->(loadCellsFrom ⟨b,o,none⟩ i cs.length acc).run P w=.ok (acc++cs.toArray) w
 |[],i,acc,_=>by simp[loadCellsFrom]
 |c::cs,i,acc,h=>by
  have h0:=h 0 c (by simp);rw[eD]at h0;have ih:=run_loadCellsFrom cs (i+1) (acc.push c) (λj u hu=>by
   have:=h (j+1) u (by simpa using hu);rw[show o+(i+1)+j=o+i+(j+1) from by omega];exact this)
  simp[loadCellsFrom,load,Sem.run,nI,h0,ih]
theorem Gd{x:Operand}{b o:Nat}{T:TypeId}{cs:List Value}{k:Nat}(hA:∀w,(isAgg T).run P w=.ok true w)(hS:∀w,(kA T).run P w=.ok k w)(hx:ρ x=.pointer (some ⟨b,o,none⟩))(hl:cs.length=k)(hc:gy w b o cs) :
  (execOp ρ ⟨dst,.load T x,ty,pos,aft,gd⟩).run P w=.ok (.value (.agg cs.toArray)) w:=by
 subst hl;have h:=run_loadCellsFrom (P:=P) (w:=w) (b:=b) (o:=o) cs 0 #[] (by simpa using hc);simp[execOp,Instr.loadAt,hx,Instr.sureAddr,loadVar,hA,hS,loadCells,h]
def one:Value->Bool
 | .agg _=>false
 | .tuple _=>false
 |_=>true
theorem BA{g i:Nat}{t:TypeId}{cs:List Value}{v:Value}{α:Type}(k:Sem α)(hb:kW w g t cs)(hi:i < cs.length)(h1:one v=true) :
  (Sem.store .plain ⟨g,i,none⟩ v k).run P w=k.run P (gk w g (.cells (cs.set i v).toArray t (0,0))):=by
 have hc:w.cell? ⟨g,i,none⟩=some cs[i]:=by rw[hb.cell];simp[hi]
 have hf:=hb.frozen i;rw[<- Iz hb];cases v<;>simp_all[Sem.run,one]
theorem V5{x y:Operand}{g o:Nat}{T t:TypeId}{cs:List Value}{v:Value}(hS:∀w,(kA T).run P w=.ok 1 w)(hx:ρ x=.pointer (some ⟨g,o,none⟩))(hy:ρ y=v)(h1:one v=true)(hb:kW w g t cs)(hi:o < cs.length) :
  (execOp ρ ⟨dst,.store T x y,ty,pos,aft,gd⟩).run P w=.ok .skip (gk w g (.cells (cs.set o v).toArray t (0,0))):=by
 have hc:v.cells=#[v]:=by cases v<;>simp_all[Value.cells,one]
 simp[execOp,Instr.storeAt,hx,hy,Instr.sureAddr,storeVar,hS,hc,storeCells,store,Addr.add,BA _ hb hi h1]
def cZ(cs:List Value)(i:Nat)(vs:List Value):List Value:=cs.take i++vs++cs.drop (i+vs.length)
theorem DL(w:World)(g:Nat)(o o':Obj):gk (gk w g o) g o'=gk w g o':=by
 simp[gk]
theorem ye(cs:List Value)(i:Nat)(v:Value)(vs:List Value)(h:i+(vs.length+1)<=cs.length):cZ (cs.set i v) (i+1) vs=cZ cs i (v::vs):=by
 unfold cZ
 apply ed
 intro k;simp only[uF,aL,a_,List.length_set,az,dt,iz,gV,List.getElem?_cons]
 grind
theorem ly{g:Nat}{t:TypeId}{o:Nat}:∀(vs:List Value) (i:Nat) (w:World) (cs:List Value),kW w g t cs->o+i+vs.length<=cs.length->(∀v∈vs,one v=true)->
  (storeCells ⟨g,o,none⟩ vs i).run P w=.ok () (gk w g (.cells (cZ cs (o+i) vs).toArray t (0,0)))
 |[],i,w,cs,hb,_,_=>by
  have:gk w g (.cells (cZ cs (o+i) []).toArray t (0,0))=w:=by
   have h2:=hb;unfold kW at h2;simp only[cZ,aG,aK,eD,bc];have ig:=hb.lt;unfold gk;have:w.heap.setIfInBounds g (.cells cs.toArray t (0,0))=w.heap:=by
    apply Array.ext
    ·simp
    ·intro k h1 h3;rw[Array.getElem_setIfInBounds];split
     ·rename_i e;subst e;rw[pS h3]at h2;exact (eM h2).symm
     ·rfl
   rw[this]
  simp[storeCells,this]
 |v::vs,i,w,cs,hb,hl,h1=>by
  simp only[az]at hl;have hs:(cs.set (o+i) v).length=cs.length:=by simp
  have ih:=ly (o:=o) vs (i+1) (gk w g (.cells (cs.set (o+i) v).toArray t (0,0))) (cs.set (o+i) v) (hb.ky t _) (by rw[hs];omega) (λu hu=>h1 u (by simp[hu]));rw[DL,show o+(i+1)=o+i+1 from by omega,ye cs (o+i) v vs (by omega)]at ih;simp only[storeCells,store,nI];have h2:=BA (P:=P) (Sem.pure ()) hb (show o+i < cs.length by omega) (h1 v (by simp));simp only[Sem.run_bind,h2,Sem.run,Result.andThen_ok];exact ih
theorem xD{F:FuncId}{as:Array Operand}{ts:Array TypeId}{vs:Array Value}(hC:∀(args:Array Value) (w:World),(callFunc F args).run P w=.ok (.enter F args) w)(hF:ρ (.func F)=.func (.func F) #[] #[])(ha:as.map ρ=vs) :
  (execOp ρ ⟨dst,.call {callee:=.value (.func F),args:=as,argTypes:=ts },ty,pos,aft,gd⟩).run P w=.ok (.enter F vs) w:=by
 subst ha;simp[execOp,resolve,Deferred.ofValue,hF,invoke,hC]
theorem a1{x:Operand}{u:Value}(h:ρ x=u):(#[x]:Array Operand).map ρ=#[u]:=by simp[h]
theorem a2{x y:Operand}{u v:Value}(h:ρ x=u)(h':ρ y=v):(#[x,y]:Array Operand).map ρ=#[u,v]:=by simp[h,h']
theorem a3{x y z:Operand}{u v q:Value}(h:ρ x=u)(h':ρ y=v)(h2:ρ z=q):(#[x,y,z]:Array Operand).map ρ=#[u,v,q]:=by simp[h,h',h2]
theorem a4{x y z t:Operand}{u v q r:Value}(h:ρ x=u)(h':ρ y=v)(h2:ρ z=q)(h3:ρ t=r):(#[x,y,z,t]:Array Operand).map ρ=#[u,v,q,r]:=by simp[h,h',h2,h3]
theorem a5{x y z t s:Operand}{u v q r p:Value}(h:ρ x=u)(h':ρ y=v)(h2:ρ z=q)(h3:ρ t=r)(h4:ρ s=p):(#[x,y,z,t,s]:Array Operand).map ρ=#[u,v,q,r,p]:=by simp[h,h',h2,h3,h4]
theorem OQ{x:Operand}{vs:Array Value}{i:Nat}{v:Value}(hx:ρ x=.tuple vs)(hi:vs[i]?=some v):(execOp ρ ⟨dst,.extract x i,ty,pos,aft,gd⟩).run P w=.ok (.value v) w:=by
 simp[execOp,Instr.extract,hx,hi]
end ops
theorem Wi{p:Prop}[Decidable p](h:p):decide p=true:=by simp[h]
theorem Wh{p:Prop}[Decidable p](h:¬p):decide p=false:=by simp[h]
theorem V2{k:IntKind}{a b:Int}(h:a=b):Value.int k a=Value.int k b:=by rw[h]
section ait
variable {P:Program} {N:Nat} {f:Fm} {w:World} {fn:Func}
theorem DE{t:Tmp}{v:Value}(h:fn.results=#[.tmp t])(hv:f t=v)(ht:fk t N=true:=by rfl):(results fn (fr f N).tmps).run P w=.ok v w:=by
 have ig:t < N:=by simpa using ht
 rw[results_tmp h];simp[fr,ig,hv]
end ait
def rf(P:Program)(N:Nat)(o:Oper)(f:Fm)(w:World)(K:Fm->World->Prop):Prop:=
 o.wp P (fr f N) w (λa' w'=>∃f',a'=fr f' N/\K f' w') (λ_ _ _=>False)
structure TD (g:Nat) (w w':World):Prop where
 os:w'.os=w.os
 tape:w'.tape=w.tape
 output:w'.output=w.output
 size:w'.heap.size=w.heap.size
 block:∀k,k≠g->w'.heap[k]?=w.heap[k]?
 fz:∀o,w'.frozen? ⟨g,o,none⟩=false
theorem TD.gk(w:World)(g:Nat)(cs:Array Value)(t:TypeId):TD g w (gk w g (.cells cs t (0,0))):=by
 refine⟨rfl,rfl,rfl,fG w g _,λk hk=>Nz w g _ k hk,λo=>?_⟩;rcases cY g w.heap.size with hl|hl
 ·simp[World.frozen?,Go.Proofs.YtcdjbelccndadaaGreatDoor.gk,hl]
 ·exact tW (by rw[fG];exact hl) o
theorem kW.off{w w':World}{g k:Nat}{t:TypeId}{cs:List Value}(h:kW w g t cs)(ho:TD k w w')(iQ:g≠k):kW w' g t cs:=h.cH (ho.block g iQ)
section
variable {P:Program} {N:Nat} {ops:Array Oper} {Kn:Fm->World->Prop} {rest:List Oper} {f:Fm} {w:World} {o:Oper} {S:World->Prop} {s:List (Nat×Bool)} {i:Nat} {K:Fm->World->Prop}
theorem rf.Z4{Q:Exit->Act->World->Prop}{K':Act->World->Prop}(h:rf P N o f w K)(hK:∀f' w',K f' w'->K' (fr f' N) w'):o.wp P (fr f N) w K' Q:=by
 unfold rf Oper.wp at h;unfold Oper.wp;generalize (execOp (fr f N).eval o).run P w=r at *;cases r with
 |ok n w'=>
  cases n<;>simp only[Oper.upon]at h ⊢
  case value v=>obtain⟨f',e,hk⟩:=h;rw[e];exact hK _ _ hk
  case skip=>obtain⟨f',e,hk⟩:=h;rw[e];exact hK _ _ hk
  case defer d=>obtain⟨f',e,hk⟩:=h;rw[e];exact hK _ _ hk
  case enter g args=>
   refine Calls.mono h λe w'' he=>?_;cases e with
   |returned v=>obtain⟨f',e,hk⟩:=he;show K' _ _;rw[e];exact hK _ _ hk
   |panicked c=>exact he.elim
   |outgrown=>obtain⟨_,_,h⟩:=he;exact h.elim
  case row r args=>exact Rows.mono h λv w'' he=>by obtain⟨f',e,hk⟩:=he;rw[e];exact hK _ _ hk
 |halt x w'=>
  cases x<;>simp only[Oper.upon]at h
theorem eQ(hg:og N ops f o.guard)(h:rf P N o f w (λf' w'=>Ls P N ops Kn rest f' w')):Ls P N ops Kn (o::rest) f w:=by
 unfold Ls wpList;rw[if_pos (show Region.wanted o _=true from hg)];exact .inl (h.Z4 λ_ _ hk=>hk)
end
section
variable {P:Program} {N:Nat} {f:Fm} {w:World} {K:Fm->World->Prop} {d:Nat} {ty:TypeId} {pos:String} {aft:Array Edge} {gd:Option (Nat×Bool)}
theorem cX{op:Op}{v:Value}(hr:(execOp (fr f N).eval ⟨some d,op,ty,pos,aft,gd⟩).run P w=.ok (.value v) w)(h:K (yi f d v) w):rf P N ⟨some d,op,ty,pos,aft,gd⟩ f w K:=by
 unfold rf Oper.wp;rw[hr,Oper.upon_value];exact⟨_,qg f N d v,h⟩
theorem so{op:Op}{v:Value}{w':World}(hr:(execOp (fr f N).eval ⟨some d,op,ty,pos,aft,gd⟩).run P w=.ok (.value v) w')(h:K (yi f d v) w'):rf P N ⟨some d,op,ty,pos,aft,gd⟩ f w K:=by
 unfold rf Oper.wp;rw[hr,Oper.upon_value];exact⟨_,qg f N d v,h⟩
theorem FA{op:Op}{w':World}(hr:(execOp (fr f N).eval ⟨none,op,ty,pos,aft,gd⟩).run P w=.ok .skip w')(h:K f w'):rf P N ⟨none,op,ty,pos,aft,gd⟩ f w K:=by
 unfold rf Oper.wp;rw[hr,Oper.upon_skip];exact⟨_,rfl,h⟩
theorem xd{op:Op}{g:FuncId}{args:Array Value}(hr:(execOp (fr f N).eval ⟨some d,op,ty,pos,aft,gd⟩).run P w=.ok (.enter g args) w){R:Ending->World->Prop}(hc:Calls P g args w R)
  (h:∀e w',R e w'->∃v,e=.returned v/\K (yi f d v) w'):rf P N ⟨some d,op,ty,pos,aft,gd⟩ f w K:=by
 unfold rf Oper.wp;rw[hr,Oper.upon_enter];refine hc.mono λe w' he=>?_;obtain⟨v,rfl,hl⟩:=h e w' he;exact⟨_,qg f N d v,hl⟩
theorem Dz{op:Op}{T:TypeId}{cs:List Value}{v:Value}(hr:(execOp (fr f N).eval ⟨some d,op,ty,pos,aft,gd⟩).run P w=.ok (.value v) (w.alloc (.cells cs.toArray T)))
  (h:∀w1:World,w1.heap.size=w.heap.size+1->DX w.heap.size w w1->kW w1 w.heap.size T cs->K (yi f d v) w1):rf P N ⟨some d,op,ty,pos,aft,gd⟩ f w K:=
 so hr (h _ (size_alloc _ _) (Cz _ _ _) (kW.new _ _ _))
end
attribute [irreducible] rf Ls W Dw
end
section
open Go.RowKit
inductive D where
 |int (k:IntKind) (n:Int)
 |bool (b:Bool)
 |str (s:ByteArray)
 |list (k:Nat) (fl:Bool) (es:List (List D))
instance:Inhabited D:=⟨.bool false⟩
def D.plain:D->Bool
 | .list _ _ _=>false
 |_=>true
def flat(es:List (List D)):Prop:=∀e∈es,∀x∈e,D.plain x=true
theorem jc:flat []:=λ_ h=>by simp at h
abbrev Fp:=List (Nat×Nat)
mutual
def Rp(w:World):D->Value->Fp->Prop
 | .int k n,v,F=>v=.int k n/\F=[]/\k.wrap n=n
 | .bool b,v,F=>v=.bool b/\F=[]
 | .str s,v,F=>v=.string s/\F=[]/\s.size<=maxLen
 | .list k fl es,v,F=>∃A n c,v=.slice A n c/\n=es.length/\n<=c/\c<=maxLen/\(fl=true->flat es)/\0 < k/\(∀e∈es,e.length=k)/\
   ((n=0/\F=[])\/(0 < n/\∃b o xs G,A=some ⟨b,o,none⟩/\F=(b,o+n * k)::G/\eH w es xs G/\gy w b o xs))
def eb(w:World):List D->List Value->Fp->Prop
 |[],vs,F=>vs=[]/\F=[]
 |d::ds,vs,F=>∃v dZ F1 F2,vs=v::dZ/\F=F1++F2/\Rp w d v F1/\eb w ds dZ F2
def eH(w:World):List (List D)->List Value->Fp->Prop
 |[],vs,F=>vs=[]/\F=[]
 |e::es,vs,F=>∃v1 v2 F1 F2,vs=v1++v2/\F=F1++F2/\eb w e v1 F1/\eH w es v2 F2
end
def rq(F:Fp)(w w':World):Prop:=∀be∈F,∀j,j < be.2->w'.cell? ⟨be.1,j,none⟩=w.cell? ⟨be.1,j,none⟩
theorem rq.left{F G:Fp}{w w':World}(h:rq (F++G) w w'):rq F w w':=λbe hb=>h be (by simp[hb])
theorem rq.right{F G:Fp}{w w':World}(h:rq (F++G) w w'):rq G w w':=λbe hb=>h be (by simp[hb])
theorem eb.length{w:World}:∀(ds:List D) {vs:List Value} {F:Fp},eb w ds vs F->vs.length=ds.length
 |[],_,_,h=>by simp only[eb]at h;simp[h.1]
 |d::ds,_,_,h=>by
  simp only[eb]at h;obtain⟨v,dZ,F1,F2,rfl,_,_,h4⟩:=h;simp[eb.length ds h4]
theorem eH.length{w:World}{k:Nat}:∀(es:List (List D)) {vs:List Value} {F:Fp},eH w es vs F->(∀e∈es,e.length=k)->vs.length=es.length * k
 |[],_,_,h,_=>by simp only[eH]at h;simp[h.1]
 |e::es,_,_,h,hk=>by
  simp only[eH]at h;obtain⟨v1,v2,F1,F2,rfl,_,h3,h4⟩:=h;simp only[aL,az,eb.length e h3,eH.length es h4 (λx hx=>hk x (by simp[hx])),hk e (by simp),iG];omega
theorem gy.abX{w w':World}{b o n:Nat}{xs:List Value}(h:gy w b o xs)(hn:o+xs.length<=n)(hk:∀j,j < n->w'.cell? ⟨b,j,none⟩=w.cell? ⟨b,j,none⟩):gy w' b o xs:=by
 intro j u hu;have hj:=(aI.1 hu).1;rw[hk (o+j) (by omega)];exact h j u hu
mutual
theorem Rp.cH{w w':World}:∀(d:D) {v:Value} {F:Fp},Rp w d v F->rq F w w'->Rp w' d v F
 | .int _ _,_,_,h,_=>by simpa only [Rp] using h
 | .bool _,_,_,h,_=>by simpa only [Rp] using h
 | .str _,_,_,h,_=>by simpa only [Rp] using h
 | .list k fl es,_,_,h,hk=>by
  simp only[Rp]at h ⊢;obtain⟨A,n,c,h1,h2,h3,h4,hf,h6,h7,h5⟩:=h;refine⟨A,n,c,h1,h2,h3,h4,hf,h6,h7,?_⟩;rcases h5 with h5|⟨h0,b,o,xs,G,h5,h8,h9,Gl⟩
  ·exact .inl h5
  ·subst h8;have hl:=eH.length es h9 h7;refine .inr ⟨h0,b,o,xs,G,h5,rfl,eH.cH es h9 (λbe hb=>hk be (by simp[hb])),?_⟩;exact Gl.abX (n:=o+n * k) (by rw[hl,h2];exact aj _) (hk (b,o+n * k) (by simp))
theorem eb.cH{w w':World}:∀(ds:List D) {vs:List Value} {F:Fp},eb w ds vs F->rq F w w'->eb w' ds vs F
 |[],_,_,h,_=>by simpa only [eb] using h
 |d::ds,_,_,h,hk=>by
  simp only[eb]at h ⊢;obtain⟨v,dZ,F1,F2,h1,rfl,h3,h4⟩:=h;exact⟨v,dZ,F1,F2,h1,rfl,Rp.cH d h3 hk.left,eb.cH ds h4 hk.right⟩
theorem eH.cH{w w':World}:∀(es:List (List D)) {vs:List Value} {F:Fp},eH w es vs F->rq F w w'->eH w' es vs F
 |[],_,_,h,_=>by simpa only [eH] using h
 |e::es,_,_,h,hk=>by
  simp only[eH]at h ⊢;obtain⟨v1,v2,F1,F2,h1,rfl,h3,h4⟩:=h;exact⟨v1,v2,F1,F2,h1,rfl,eb.cH e h3 hk.left,eH.cH es h4 hk.right⟩
end
theorem A8{w:World}{b o:Nat}{v:Value}(h:w.cell? ⟨b,o,none⟩=some v):b < w.heap.size:=by
 unfold World.cell? at h;rcases cY b w.heap.size with hl|hl
 ·exact hl
 simp_all
mutual
theorem Rp.lt{w:World}:∀(d:D) {v:Value} {F:Fp},Rp w d v F->∀be∈F,be.1 < w.heap.size
 | .int _ _,_,_,h=>by simp only[Rp]at h;simp[h.2.1]
 | .bool _,_,_,h=>by simp only[Rp]at h;simp[h.2]
 | .str _,_,_,h=>by simp only[Rp]at h;simp[h.2.1]
 | .list k fl es,_,_,h=>by
  simp only[Rp]at h;obtain⟨A,n,c,h1,h2,h3,h4,hf,h6,h7,h5⟩:=h;rcases h5 with h5|⟨h0,b,o,xs,G,h5,h8,h9,Gl⟩
  ·simp[h5.2]
  ·subst h8;have hl:=eH.length es h9 h7;have hp:0 < xs.length:=by rw[hl,<- h2];exact Nat.mul_pos h0 h6
   have hb:=A8 (Gl 0 xs[0] (by simp[hp]));intro be nZ;rcases ay.1 nZ with rfl|nZ
   ·exact hb
   ·exact eH.lt es h9 be nZ
theorem eb.lt{w:World}:∀(ds:List D) {vs:List Value} {F:Fp},eb w ds vs F->∀be∈F,be.1 < w.heap.size
 |[],_,_,h=>by simp only[eb]at h;simp[h.2]
 |d::ds,_,_,h=>by
  simp only[eb]at h;obtain⟨v,dZ,F1,F2,h1,rfl,h3,h4⟩:=h;intro be nZ;rcases aM.1 nZ with nZ|nZ
  ·exact Rp.lt d h3 be nZ
  ·exact eb.lt ds h4 be nZ
theorem eH.lt{w:World}:∀(es:List (List D)) {vs:List Value} {F:Fp},eH w es vs F->∀be∈F,be.1 < w.heap.size
 |[],_,_,h=>by simp only[eH]at h;simp[h.2]
 |e::es,_,_,h=>by
  simp only[eH]at h;obtain⟨v1,v2,F1,F2,h1,rfl,h3,h4⟩:=h;intro be nZ;rcases aM.1 nZ with nZ|nZ
  ·exact eb.lt e h3 be nZ
  ·exact eH.lt es h4 be nZ
end
theorem eb.append{w:World}:∀(ds:List D) {es:List D} {vs us:List Value} {F G:Fp},eb w ds vs F->eb w es us G->eb w (ds++es) (vs++us) (F++G)
 |[],_,_,_,_,_,h,h'=>by
  simp only[eb]at h;obtain⟨rfl,rfl⟩:=h
  simpa using h'
 |d::ds,_,_,_,_,_,h,h'=>by
  obtain⟨v,dZ,F1,F2,rfl,rfl,h3,h4⟩:=h;exact⟨v,_,F1,_,rfl,by simp,h3,eb.append ds h4 h'⟩
theorem eH.append{w:World}:∀(ds:List (List D)) {es:List (List D)} {vs us:List Value} {F G:Fp},eH w ds vs F->eH w es us G->eH w (ds++es) (vs++us) (F++G)
 |[],_,_,_,_,_,h,h'=>by
  simp only[eH]at h;obtain⟨rfl,rfl⟩:=h
  simpa using h'
 |d::ds,_,_,_,_,_,h,h'=>by
  obtain⟨v1,v2,F1,F2,rfl,rfl,h3,h4⟩:=h;exact⟨v1,_,F1,_,by simp,by simp,h3,eH.append ds h4 h'⟩
theorem eb.fy{w:World}:∀(ds:List D) {es:List D} {vs:List Value} {F:Fp},eb w (ds++es) vs F->∃v1 v2 F1 F2,vs=v1++v2/\F=F1++F2/\eb w ds v1 F1/\eb w es v2 F2
 |[],es,vs,F,h=>⟨[],vs,[],F,rfl,rfl,by simp[eb],by simpa using h⟩
 |d::ds,_,_,_,h=>by
  simp only[ai,eb]at h;obtain⟨v,dZ,F1,F2,rfl,rfl,h3,h4⟩:=h;obtain⟨u1,u2,G1,G2,rfl,rfl,h5,h6⟩:=eb.fy ds h4;exact⟨v::u1,u2,F1++G1,G2,by simp,by simp,by simp only[eb];exact⟨v,u1,F1,G1,rfl,rfl,h3,h5⟩,h6⟩
theorem eH.fy{w:World}:∀(ds:List (List D)) {es:List (List D)} {vs:List Value} {F:Fp},eH w (ds++es) vs F->∃v1 v2 F1 F2,vs=v1++v2/\F=F1++F2/\eH w ds v1 F1/\eH w es v2 F2
 |[],es,vs,F,h=>⟨[],vs,[],F,rfl,rfl,by simp[eH],by simpa using h⟩
 |d::ds,_,_,_,h=>by
  simp only[ai,eH]at h;obtain⟨v1,v2,F1,F2,rfl,rfl,h3,h4⟩:=h;obtain⟨u1,u2,G1,G2,rfl,rfl,h5,h6⟩:=eH.fy ds h4;exact⟨v1++u1,u2,F1++G1,G2,by simp,by simp,by simp only[eH];exact⟨v1,u1,F1,G1,rfl,rfl,h3,h5⟩,h6⟩
theorem eH.at_{w:World}{k:Nat}{es:List (List D)}{vs:List Value}{F:Fp}(h:eH w es vs F)(hk:∀e∈es,e.length=k){i:Nat}{e:List D}(hi:es[i]?=some e) :
  ∃G,eb w e ((vs.drop (i * k)).take k) G/\∀be∈G,be∈F:=by
 have ig:=(aI.1 hi).1;have e1:es=es.take i++(e::es.drop (i+1)):=by
  rw[<- aI.1 hi |>.2,List.getElem_cons_drop,bc]
 rw[e1]at h;obtain⟨v1,v2,F1,F2,rfl,rfl,h3,h4⟩:=eH.fy _ h;simp only[eH]at h4;obtain⟨u1,u2,G1,G2,rfl,rfl,h5,h6⟩:=h4;have I2:v1.length=i * k:=by
  rw[eH.length _ h3 (λx hx=>hk x (bN hx)),a_,dT (by omega)]
 have Q1:u1.length=k:=by rw[eb.length _ h5];exact hk e (cK hi)
 refine⟨G1,?_,λbe hb=>by simp[hb]⟩;rw[<- I2,List.drop_left,<- Q1,lZ];exact h5
theorem eb.at_{w:World}:∀{ds:List D} {vs:List Value} {F:Fp},eb w ds vs F->∀{i:Nat} {d:D},ds[i]?=some d->∃v G,vs[i]?=some v/\Rp w d v G/\∀be∈G,be∈F
 |[],_,_,_,i,d,hi=>by simp at hi
 |x::ds,_,_,h,i,d,hi=>by
  simp only[eb]at h;obtain⟨v,dZ,F1,F2,rfl,rfl,h3,h4⟩:=h;cases i with
  |zero=>simp at hi;subst hi;exact⟨v,F1,rfl,h3,λbe hb=>by simp[hb]⟩
  |succ i=>
   obtain⟨u,G,h5,h6,h7⟩:=eb.at_ h4 hi;exact⟨u,G,by simpa using h5,h6,λbe hb=>by simp[h7 be hb]⟩
theorem eb.drop{w:World}:∀(ds:List D) {vs:List Value} {F:Fp} (n:Nat),eb w ds vs F->∃G,eb w (ds.drop n) (vs.drop n) G/\∀be∈G,be∈F
 |ds,_,F,0,h=>⟨F,by simpa using h,λ_ h=>h⟩
 |[],_,F,n+1,h=>⟨F,by simp only[eb]at h;simp[eb,h.1,h.2],λ_ h=>h⟩
 |d::ds,_,_,n+1,h=>by
  simp only[eb]at h;obtain⟨v,dZ,F1,F2,rfl,rfl,h3,h4⟩:=h;obtain⟨G,h5,h6⟩:=eb.drop ds n h4;exact⟨G,by simpa using h5,λbe hb=>by simp[h6 be hb]⟩
theorem eb.take{w:World}:∀(ds:List D) {vs:List Value} {F:Fp} (n:Nat),eb w ds vs F->∃G,eb w (ds.take n) (vs.take n) G/\∀be∈G,be∈F
 |ds,_,F,0,h=>⟨[],by simp[eb],λ_ h=>by simp at h⟩
 |[],_,F,n+1,h=>⟨F,by simp only[eb]at h;simp[eb,h.1,h.2],λ_ h=>h⟩
 |d::ds,_,_,n+1,h=>by
  simp only[eb]at h;obtain⟨v,dZ,F1,F2,rfl,rfl,h3,h4⟩:=h;obtain⟨G,h5,h6⟩:=eb.take ds n h4;refine⟨F1++G,?_,λbe hb=>?_⟩
  ·exact⟨v,_,F1,G,rfl,rfl,h3,h5⟩
  ·rcases aM.1 hb with hb|hb
   ·simp[hb]
   ·simp[h6 be hb]
theorem eb.plain{w:World}:∀{ds:List D} {vs:List Value} {F:Fp},eb w ds vs F->(∀x∈ds,D.plain x=true)->F=[]
 |[],_,_,h,_=>by simp only[eb]at h;exact h.2
 |d::ds,_,_,h,hp=>by
  simp only[eb]at h;obtain⟨v,dZ,F1,F2,rfl,rfl,h3,h4⟩:=h;have e2:=eb.plain h4 (λx hx=>hp x (by simp[hx]));have e1:=hp d (by simp);cases d with
  |list k fl es=>simp[D.plain]at e1
  |int k n=>simp[Rp]at h3;simp[h3.2.1,e2]
  |bool b=>simp[Rp]at h3;simp[h3.2,e2]
  |str s=>simp[Rp]at h3;simp[h3.2.1,e2]
theorem eH.plain{w:World}:∀{es:List (List D)} {vs:List Value} {F:Fp},eH w es vs F->flat es->F=[]
 |[],_,_,h,_=>by simp only[eH]at h;exact h.2
 |e::es,_,_,h,hp=>by
  simp only[eH]at h;obtain⟨v1,v2,F1,F2,rfl,rfl,h3,h4⟩:=h;rw[eb.plain h3 (hp e (by simp)),eH.plain h4 (λx hx=>hp x (by simp[hx]))];rfl
theorem Rp.qN{w:World}{d:D}{v:Value}{F:Fp}(h:Rp w d v F):one v=true:=by
 cases d with
 |int k n=>simp[Rp]at h;rw[h.1];rfl
 |bool b=>simp[Rp]at h;rw[h.1];rfl
 |str s=>simp[Rp]at h;rw[h.1];rfl
 |list k fl es=>simp[Rp]at h;obtain⟨A,n,c,h1,_⟩:=h;rw[h1];rfl
theorem eb.qN{w:World}:∀{ds:List D} {vs:List Value} {F:Fp},eb w ds vs F->∀v∈vs,one v=true
 |[],_,_,h=>by simp only[eb]at h;simp[h.1]
 |d::ds,_,_,h=>by
  simp only[eb]at h;obtain⟨v,dZ,F1,F2,rfl,rfl,h3,h4⟩:=h;intro u hu;rcases ay.1 hu with rfl|hu
  ·exact h3.qN
  ·exact eb.qN h4 u hu
theorem eH.qN{w:World}:∀{es:List (List D)} {vs:List Value} {F:Fp},eH w es vs F->∀v∈vs,one v=true
 |[],_,_,h=>by simp only[eH]at h;simp[h.1]
 |e::es,_,_,h=>by
  simp only[eH]at h;obtain⟨v1,v2,F1,F2,rfl,rfl,h3,h4⟩:=h;intro u hu;rcases aM.1 hu with hu|hu
  ·exact h3.qN u hu
  ·exact eH.qN h4 u hu
end
section
structure Row where
 es:List (List D)
 k:Nat
 fl:Bool
 deep:Bool
 app:Bool
 fz:Bool
inductive C where
 |d (x:D)
 |nil (k:Nat) (fl:Bool)
 |ref (r:Nat)
 |ptr (b o:Nat)
 |mY (r k i o:Nat)
 |qJ (cs:List D)
 |agg (cs:List C)
 |oH (cs:List C)
 |qZ
 |any
instance:Inhabited C:=⟨.any⟩
mutual
def C.kill(i:Nat):C->C
 | .ref r=>if r=i then .any else .ref r
 | .ptr b o=>if b=i then .any else .ptr b o
 | .mY r k a o=>if r=i then .any else .mY r k a o
 | .agg cs=>.agg (C.jf i cs)
 | .oH cs=>.oH (C.jf i cs)
 |c=>c
def C.jf(i:Nat):List C->List C
 |[]=>[]
 |c::cs=>C.kill i c::C.jf i cs
end
inductive RV where
 |d (x:D)
 |row (r:Row)
inductive A where
 |val (agg:Bool) (cs:List RV)
 |box (cs:List RV)
structure St where
 sl:List (Nat×C)
 bx:List (Nat×List C)
 rw:List (Nat×Row)
def look{α:Type}:List (Nat×α)->Nat->Option α
 |[],_=>none
 |(k,x)::l,d=>if k=d then some x else look l d
def pg{α:Type}(l:List (Nat×α))(d:Nat):List (Nat×α):=l.filter (λp=>p.1 !=d)
def LY(i:Nat)(l:List (Nat×C)):List (Nat×C):=l.map λp=>(p.1,p.2.kill i)
def LX(i:Nat)(l:List (Nat×List C)):List (Nat×List C):=l.map λp=>(p.1,C.jf i p.2)
def St.kill(s:St)(i:Nat):St:=⟨LY i s.sl,LX i s.bx,s.rw⟩
def St.get(s:St)(d:Nat):C:=(look s.sl d).getD .any
def St.put(s:St)(dst:Option Nat)(c:C):St:=
 match dst with
 |some d=>{s with sl:=(d,c)::s.sl }
 |none=>s
def St.eO(s:St)(b:Nat)(cs:List C):St:={s with bx:=(b,cs)::pg s.bx b }
def St.setRow(s:St)(r:Nat)(x:Row):St:={s with rw:=(r,x)::pg s.rw r }
def St.cM(s:St)(r:Nat):St:={s with rw:=pg s.rw r }
def St.jK(s:St)(b:Nat)(cs:List C):St:=(s.kill b).eO b cs
def St.newRow(s:St)(r:Nat)(x:Row):St:=(s.kill r).setRow r x
def tB(d j:Nat):Nat:=1000 * (d+1)+j
inductive KX where
 |s (d:Nat)
 |k (c:C)
def eW(s:St):KX->C
 | .s d=>s.get d
 | .k c=>c
def C.cells:C->List C
 | .agg cs=>cs
 |c=>[c]
def nth{α:Type}:List α->Nat->Option α
 |[],_=>none
 |x::_,0=>some x
 |_::l,i+1=>nth l i
def C.const:C->Bool
 | .d x=>D.plain x
 | .nil _ _=>true
 |_=>false
def C.cell:C->Bool
 | .d _=>true
 | .nil _ _=>true
 | .ref _=>true
 |_=>false
def B3:St->List C->Option (List D×Bool×St)
 |s,[]=>some ([],true,s)
 |s,c::cs=>
  match c with
  | .d x=>(B3 s cs).map λ(ds,dp,s')=>(x::ds,D.plain x && dp,s')
  | .nil k fl=>(B3 s cs).map λ(ds,dp,s')=>(.list k fl []::ds,dp,s')
  | .ref r=>
   match look s.rw r with
   |some x=>(B3 (s.cM r) cs).map λ(ds,dp,s')=>(.list x.k x.fl x.es::ds,x.deep && !x.fz && dp,s')
   |none=>none
  |_=>none
def cQ(ds:List D):Bool:=ds.all D.plain
def zM(k:Nat)(fl:Bool):St->List C->Option (List (List D)×Bool×St)
 |s,[]=>some ([],true,s)
 |s,c::cs=>
  match B3 s c.cells with
  |some (ds,dp,s1)=>if ds.length=k/\(fl=true->cQ ds=true) then (zM k fl s1 cs).map λ(es,Xx,s')=>(ds::es,dp && Xx,s') else none
  |none=>none
def room:Nat:=140737488355328
inductive KO where
 |mv (x:KX)
 |pick (c x y:KX)
 |alloc (zs:List C)
 |box (x:KX)
 |build (zs:List C) (ps:List (Nat×Nat×KX))
 |na (k:Nat) (fl:Bool) (xs:List KX)
 |make (k by_:Nat) (fl:Bool) (zs:List D) (x:KX)
 |ld (n:Nat) (x:KX)
 |st (n:Nat) (x y:KX)
 |fa (o:Nat) (x:KX)
 |ia (k:Nat) (x i:KX)
 |kV (x i:KX)
 |bin (op:BinOp) (x y:KX)
 |uG (op:BinOp) (x y:KX)
 |not (x:KX)
 |neg (x:KX)
 |conv (k:IntKind) (x:KX)
 |len (x:KX)
 |kJ (x:KX)
 |app (k by_:Nat) (fl:Bool) (x y:KX)
 |min (x y:KX)
 |max (x y:KX)
 |ext (x:KX) (i:Nat)
 |slc (x hi:KX)
 |WW (x:KX)
 |yk (x:KX)
 |call (f:Nat) (xs:List KX)
 |J7 (f:Nat) (x y:KX)
 |cut (k:Nat) (x:KX) (lo hi:Option KX)
 |I_ (x:KX) (lo hi:Option KX)
 |yc (k:Nat) (x:KX) (lo hi:Option KX)
 |WL (n k:Nat) (x i:KX)
 |xL (k:Nat) (x y:KX)
 |zro (zs:List C)
 |jn (x y:KX)
 |Mq (x:KX)
structure KI where
 dst:Option Nat
 op:KO
 gd:Option (Nat×Bool)
structure KD where
 j:Nat
 q:Bool
 al:List Nat
 dn:List Nat
 i:KI
inductive KT where
 |nil
 |op (x:KD) (t:KT)
 |alt (x:KD) (t r:KT)
structure j6 where
 s:List Nat
 b:List Nat
 r:List Nat
inductive K where
 |skip
 |cp (ops:List KI) (kp:j6)
 |Lk (ops:KT) (kp:j6)
 |seq (a b:K)
 |cond (c:KX) (a b:K)
 |block (id:Nat) (a:K)
 |loop (a:K)
 |exit (id:Nat)
 |ret
 |share (r:Nat) (a:K)
 |I0 (d:Nat) (a:K)
inductive Ex where
 |norm
 |exit (id:Nat)
 |ret
def Pw(op:BinOp)(k:IntKind)(a b:Int):Option D:=
 match op with
 | .add=>some (.int k (k.wrap (a+b)))
 | .sub=>some (.int k (k.wrap (a - b)))
 | .mul=>some (.int k (k.wrap (a * b)))
 | .lss=>some (.bool (decide (a < b)))
 | .leq=>some (.bool (decide (a<=b)))
 | .gtr=>some (.bool (decide (b < a)))
 | .geq=>some (.bool (decide (b<=a)))
 | .eql=>some (.bool (decide (a=b)))
 | .neq=>some (.bool (!decide (a=b)))
 | .quo=>if k=.i64/\0<=a/\1<=b then some (.int k (a / b)) else if k=.i64/\a < 0/\1<=b then some (.int k (-(-a / b))) else none
 | .rem=>if k=.i64/\0<=a/\1<=b then some (.int k (a % b)) else if k=.i64/\a < 0/\1<=b then some (.int k (-(-a % b))) else none
 |_=>none
def nT(a b:ByteArray):Bool:=Op.bytesLess a.toList b.toList
def Px(op:BinOp)(a b:ByteArray):Option D:=
 match op with
 | .add=>if a.size+b.size<=maxLen then some (.str (a++b)) else none
 | .eql=>some (.bool (decide (a=b)))
 | .neq=>some (.bool (!decide (a=b)))
 | .lss=>some (.bool (nT a b))
 | .leq=>some (.bool (nT a b ||decide (a=b)))
 | .gtr=>some (.bool (!(nT a b ||decide (a=b))))
 | .geq=>some (.bool (!nT a b))
 |_=>none
def Pv(op:BinOp)(a b:Bool):Option D:=
 match op with
 | .eql=>some (.bool (decide (a=b)))
 | .neq=>some (.bool (!decide (a=b)))
 |_=>none
def M_(op:BinOp):C->C->Option C
 | .d (.int k a),.d (.int k' b)=>if k=k' then (Pw op k a b).map .d else none
 | .d (.str a),.d (.str b)=>(Px op a b).map .d
 |_,_=>none
def kI(s:St):C->Option RV
 | .d x=>some (.d x)
 | .nil k fl=>some (.d (.list k fl []))
 | .ref r=>(look s.rw r).map λx=>.d (.list x.k x.fl x.es)
 |_=>none
def iK(s:St):C->Option RV
 | .d x=>some (.d x)
 | .nil k fl=>some (.row ⟨[],k,fl,true,true,false⟩)
 | .ref r=>(look s.rw r).map .row
 |_=>none
def fp{α β:Type}(f:α->Option β):List α->Option (List β)
 |[]=>some []
 |x::xs=>match f x with
  |some y=>(fp f xs).map (y::·)
  |none=>none
def C.isAgg:C->Bool
 | .agg _=>true
 |_=>false
def OL(s:St)(c:C):Option A:=
 match c with
 | .ptr b 0=>match look s.bx b with
  |some cs=>(fp (iK s) cs).map .box
  |none=>none
 |c=>(fp (kI s) c.cells).map (.val c.isAgg)
def vK(s:St):List C->Option (List A)
 |[]=>some []
 |c::cs=>match OL s c with
  |some a=>(vK s cs).map (a::·)
  |none=>none
def rowsOf:List C->List Nat
 |[]=>[]
 | .ref r::cs=>r::rowsOf cs
 |_::cs=>rowsOf cs
def pK(s:St):C->List Nat
 | .ptr b 0=>rowsOf ((look s.bx b).getD [])
 |_=>[]
def cI(s:St):List C->List Nat
 |[]=>[]
 |c::cs=>pK s c++cI s cs
def gZ:List C->List Nat
 |[]=>[]
 |c::cs=>rowsOf c.cells++gZ cs
def ch:List C->List Nat
 |[]=>[]
 | .ptr b _::cs=>b::ch cs
 |_::cs=>ch cs
def RV.closed:RV->Bool
 | .d x=>D.plain x
 | .row r=>r.deep
def A.closed:A->Bool
 | .val _ cs=>cs.all RV.closed
 | .box cs=>cs.all RV.closed
def Row.share(r:Row):Row:={r with fz:=true,deep:=r.fl }
def dH(s:St):List Nat->St
 |[]=>s
 |r::rs=>match look s.rw r with
  |some x=>dH (s.setRow r x.share) rs
  |none=>dH s rs
def dU(d:Nat):Nat->List RV->St->List C×St
 |_,[],s=>([],s)
 |j,.d x::cs,s=>let (l,s'):=dU d (j+1) cs s;(.d x::l,s')
 |j,.row r::cs,s=>let (l,s'):=dU d (j+1) cs (s.newRow (tB d j) r);(.ref (tB d j)::l,s')
def jM(s:St):List C->List A->St
 | .ptr b 0::cs,.box vs::outs=>let (l,s'):=dU (b+500) 0 vs s;jM (s'.eO b l) cs outs
 | .ptr _ 0::_,_=>s
 |_::cs,outs=>jM s cs outs
 |[],_=>s
def fw(d:Nat):Nat->List A->St->List C×St
 |_,[],s=>([],s)
 |q,.val ag vs::rs,s=>
  let (l,s1):=dU d (30 * q) vs s
  let (m,s2):=fw d (q+1) rs s1
  ((if ag then .agg l else l.headD .any)::m,s2)
 |_,.box _::_,s=>([],s)
def iU:List Nat->Bool
 |[]=>true
 |x::xs=>!xs.contains x && iU xs
def ey(s:St):List Nat->St
 |[]=>s
 |r::rs=>ey (s.cM r) rs
def fR{α:Type}(l:List α)(o:Nat)(n:List α):List α:=l.take o++n++l.drop (o+n.length)
def A.short:A->Bool
 | .val _ cs=>nz cs.length 30
 | .box _=>false
def ei(s:St):List Nat->St
 |[]=>s
 |b::bs=>ei {s with bx:=pg s.bx b } bs
def xP(zs:List C):List (Nat×Nat×List C)->Option (List C)
 |[]=>some zs
 |(o,n,cs)::ps=>if cs.length=n/\o+n<=zs.length/\cs.all C.cell=true then xP (fR zs o cs) ps else none
def vE:List C->List Nat
 |[]=>[]
 |c::cs=>rowsOf c.cells++vE cs
def yG(s:St)(cs:List C):List Nat:=ch cs++cI s cs++gZ cs
def bytesOf:List (List D)->Option (List Int)
 |[]=>some []
 |[.int .u8 n]::es=>(bytesOf es).map (n::·)
 |_=>none
def iR(s:St):C->Option D
 | .d x=>match x with
  | .list k fl []=>some (.list k fl [])
  | .list _ _ _=>none
  |x=>some x
 | .nil k fl=>some (.list k fl [])
 | .ref r=>match look s.rw r with
  |some row=>if row.deep=true/\row.fz=false then some (.list row.k row.fl row.es) else none
  |none=>none
 |_=>none
def rG(s:St):List C->Option (List D)
 |[]=>some []
 |c::cs=>match iR s c with
  |some x=>(rG s cs).map (x::·)
  |none=>none
def om(s:St):List C->List D->St->Option St
 |[],[],acc=>some acc
 | .ref r::cs,.list k fl es::ds,acc=>match look s.rw r with
  |some row=>if k=row.k/\fl=row.fl then om s cs ds (acc.setRow r ⟨es,row.k,row.fl,true,false,false⟩) else none
  |none=>none
 | .ref _::_,_,_=>none
 |_::cs,_::ds,acc=>om s cs ds acc
 |_,_,_=>none
section
variable (cf:Nat->List A->Option (List A×List A)) (mf:Nat->Bool->List D->Int->Option (List D×Int))
def tT(s:St)(d:Option Nat)(f:Nat)(cs:List C):Option St:=
 match vK s cs with
 |none=>none
 |some as=>
  if iU (cI s cs) && iU (ch cs) && (cI s cs).all (λr=>!(gZ cs).contains r) then
   match cf f as with
   |none=>none
   |some (rs,outs)=>if rs.all A.short then
    let s0:=if rs.all A.closed && outs.all A.closed then s else dH s (gZ cs)
    let s1:=ei (ey s0 (cI s cs)) (ch cs)
    let s2:=jM s1 cs outs
    let (l,s4):=fw (d.getD 0) 0 rs s2
    some (s4.put d (match l with|[c]=>c|l=>.oH l))
    else none
  else none
def pM(s:St)(o:Option KX)(z:Nat):Option Nat:=
 match o with
 |none=>some z
 |some e=>match eW s e with
  | .d (.int .i64 n)=>if 0<=n then some n.toNat else none
  |_=>none
def gG(s:St):KO->Option C
 | .mv x=>some (eW s x)
 | .pick c x y=>match eW s c with
  | .d (.bool b)=>some (if b then eW s x else eW s y)
  |_=>none
 | .build zs ps=>(xP zs (ps.map λp=>(p.1,p.2.1,(eW s p.2.2).cells))).map .agg
 | .ld n x=>match eW s x with
  | .ptr b o=>match look s.bx b with
   |some cs=>if n=0 then nth cs o else if o+n<=cs.length then some (.agg ((cs.drop o).take n)) else none
   |none=>none
  | .qJ cs=>if n=0 then (nth cs 0).map .d else if n<=cs.length then some (.agg ((cs.take n).map .d)) else none
  | .mY r k i o=>match look s.rw r with
   |some row=>match nth row.es i with
    |some e=>if row.k=k/\o+max n 1<=k/\(cQ ((e.drop o).take (max n 1)) ||!row.deep)=true then
      (if n=0 then (nth e o).map .d else some (.agg (((e.drop o).take n).map .d))) else none
    |none=>none
   |none=>none
  |_=>none
 | .fa o x=>match eW s x with
  | .ptr b p=>some (.ptr b (p+o))
  | .qJ cs=>some (.qJ (cs.drop o))
  | .mY r k i p=>some (.mY r k i (p+o))
  |_=>none
 | .ia k x i=>match eW s x,eW s i with
  | .d (.list k' _ es),.d (.int .i64 n)=>if 0<=n/\k'=k then (nth es n.toNat).map .qJ else none
  | .ref r,.d (.int .i64 n)=>match look s.rw r with
   |some row=>if 0<=n/\n.toNat < row.es.length/\row.k=k then some (.mY r k n.toNat 0) else none
   |none=>none
  |_,_=>none
 | .zro zs=>if zs.all C.const then some (.agg zs) else none
 | .WL n k x i=>match eW s x,eW s i with
  | .ptr b o,.d (.int .i64 m)=>if 0<=m/\m.toNat < n then some (.ptr b (o+m.toNat * k)) else none
  |_,_=>none
 | .kV x i=>match eW s x,eW s i with
  | .d (.str t),.d (.int .i64 n)=>if 0<=n/\n.toNat < t.size then some (.d (.int .u8 (da t n.toNat))) else none
  |_,_=>none
 | .bin op x y=>M_ op (eW s x) (eW s y)
 | .uG op x y=>match eW s x,eW s y with
  | .d (.bool a),.d (.bool b)=>(Pv op a b).map .d
  |_,_=>none
 | .not x=>match eW s x with
  | .d (.bool b)=>some (.d (.bool (!b)))
  |_=>none
 | .neg x=>match eW s x with
  | .d (.int k a)=>some (.d (.int k (k.wrap (-a))))
  |_=>none
 | .conv k x=>match eW s x with
  | .d (.int _ a)=>some (.d (.int k (k.wrap a)))
  |_=>none
 | .len x=>match eW s x with
  | .d (.list _ _ es)=>some (.d (.int .i64 es.length))
  | .nil _ _=>some (.d (.int .i64 0))
  | .ref r=>match look s.rw r with
   |some row=>some (.d (.int .i64 row.es.length))
   |none=>none
  |_=>none
 | .kJ x=>match eW s x with
  | .d (.str t)=>some (.d (.int .i64 t.size))
  |_=>none
 | .min x y=>match eW s x,eW s y with
  | .d (.int .i64 a),.d (.int .i64 b)=>some (.d (.int .i64 (if b < a then b else a)))
  |_,_=>none
 | .max x y=>match eW s x,eW s y with
  | .d (.int .i64 a),.d (.int .i64 b)=>some (.d (.int .i64 (if a < b then b else a)))
  |_,_=>none
 | .ext x i=>match eW s x with
  | .oH cs=>nth cs i
  |_=>none
 | .slc x y=>match eW s x,eW s y with
  | .d (.list k fl es),.d (.int .i64 n)=>if 0<=n/\n.toNat<=es.length then some (.d (.list k fl (es.take n.toNat))) else none
  |_,_=>none
 | .I_ x lo hi=>match eW s x with
  | .d (.str t)=>match pM s lo 0,pM s hi t.size with
   |some a,some b=>if a<=b/\b<=t.size then some (.d (.str (t.extract a b))) else none
   |_,_=>none
  |_=>none
 | .yc k' x lo hi=>match eW s x with
  | .d (.list k fl es)=>match pM s lo 0,pM s hi es.length with
   |some a,some b=>if k=k'/\a<=b/\b<=es.length then some (.d (.list k fl ((es.take b).drop a))) else none
   |_,_=>none
  |_=>none
 | .WW x=>match eW s x with
  | .ptr b o=>some (.ptr b o)
  | .qJ cs=>some (.qJ cs)
  | .mY r k i o=>some (.mY r k i o)
  |_=>none
 | .yk x=>match eW s x with
  | .ref r=>match look s.rw r with
   |some row=>if row.k=1 then (bytesOf row.es).map λxs=>.d (.str ⟨(xs.map λn=>cL n.toNat).toArray⟩) else none
   |none=>none
  |_=>none
 |_=>none
mutual
def C.fY(q i:Nat):C->C
 | .ref r=>if r=q then .ref i else if r=i then .any else .ref r
 | .mY r k a o=>if r=q then .mY i k a o else if r=i then .any else .mY r k a o
 | .agg cs=>.agg (C.xl q i cs)
 | .oH cs=>.oH (C.xl q i cs)
 |c=>c
def C.xl(q i:Nat):List C->List C
 |[]=>[]
 |c::cs=>C.fY q i c::C.xl q i cs
end
def Se(q i:Nat)(l:List (Nat×C)):List (Nat×C):=l.map λp=>(p.1,p.2.fY q i)
def Sd(q i:Nat)(l:List (Nat×List C)):List (Nat×List C):=l.map λp=>(p.1,C.xl q i p.2)
def St.fY(s:St)(q i:Nat)(row:Row):St:=⟨Se q i s.sl,Sd q i s.bx,(i,row)::pg (pg s.rw q) i⟩
def jt:List (List D)->Option (List Bool)
 |[]=>some []
 |[.bool b]::es=>(jt es).map (b::·)
 |_=>none
def cG:List Bool->List Bool->List Bool
 |a::as,b::bs=>(a ||b)::cG as bs
 |as,_=>as
def lb:List Bool->List Bool->Bool
 |a::as,b::bs=>(b && !a) ||lb as bs
 |_,_=>false
def C_(s:St)(r:Nat):C->Option (List (List D))
 | .d (.list 1 _ es)=>some es
 | .ref q=>match look s.rw q with
  |some row=>if row.k=1/\q≠r then some row.es else none
  |none=>none
 |_=>none
def mK(s:St)(k:Nat)(fl:Bool):C->Option (List (List D)×Bool×St)
 | .d (.list k' sR es)=>if k'=k/\sR=fl then some (es,fl,s) else none
 | .nil _ _=>some ([],true,s)
 | .ref q=>match look s.rw q with
  |some row=>if row.k=k/\row.fl=fl then some (row.es,(row.deep && !row.fz) ||fl,s.cM q) else none
  |none=>none
 |_=>none
def kc(s:St)(d:Option Nat):KO->Option St
 | .alloc zs=>match d with
  |some b=>if zs.all C.const then some ((s.jK b zs).put d (.ptr b 0)) else none
  |none=>none
 | .box x=>match d with
  |some b=>if (eW s x).cells.all C.cell then some ((s.jK b (C.jf b (eW s x).cells)).put d (.ptr b 0)) else none
  |none=>none
 | .na k fl xs=>match d with
  |some r=>match zM k fl s (xs.map (eW s)) with
   |some (es,dp,s1)=>if 0 < k then some ((s1.newRow r ⟨es,k,fl,dp,true,false⟩).put d (.ref r)) else none
   |none=>none
  |none=>none
 | .make k by_ fl zs x=>match d,eW s x with
  |some r,.d (.int .i64 n)=>if 0<=n/\n.toNat * by_<=room/\n<=4611686018427387904 then some ((s.newRow r ⟨aE n.toNat zs,k,fl,true,true,false⟩).put d (.ref r)) else none
  |_,_=>none
 | .st n x y=>match eW s x with
  | .ptr b o=>match look s.bx b with
   |some cs=>if (eW s y).cells.all C.cell=true/\(eW s y).cells.length=n/\o+n<=cs.length then some (s.eO b (fR cs o (eW s y).cells)) else none
   |none=>none
  | .mY r k i o=>match B3 s (eW s y).cells with
   |some (ds,dp,s1)=>match look s1.rw r with
    |some row=>match nth row.es i with
     |some e=>if row.k=k/\row.fz=false/\row.app=true/\ds.length=n/\o+n<=k/\(row.fl=true->cQ ds=true)/\(dp ||!row.deep)=true then
       some (s1.setRow r {row with es:=row.es.set i (fR e o ds) }) else none
     |none=>none
    |none=>none
   |none=>none
  |_=>none
 | .app k by_ fl x y=>match d with
  |none=>none
  |some d0=>match mK s k fl (eW s y) with
   |none=>none
   |some (es,dp,s1)=>match eW s x with
    | .nil k' sR=>if k'=k/\sR=fl/\es.length * by_<=room/\es.length<=maxLen then some ((s1.newRow d0 ⟨es,k,fl,dp,true,false⟩).put d (.ref d0)) else none
    | .ref r=>match look s1.rw r with
     |some row=>if row.k=k/\row.fl=fl/\row.app=true/\(row.es.length+es.length) * by_<=room/\row.es.length+es.length<=maxLen then
       some ((s1.newRow r {row with es:=row.es++es,deep:=row.deep && dp }).put d (.ref r)) else none
     |none=>none
    |_=>none
 | .call f xs=>tT cf s d f (xs.map (eW s))
 | .cut k x lo hi=>match d with
  |none=>none
  |some _=>match eW s x with
   | .nil k' fl=>match pM s lo 0,pM s hi 0 with
    |some a,some b=>if k'=k/\a=0/\b=0 then some (s.put d (.nil k' fl)) else none
    |_,_=>none
   | .ref r=>match look s.rw r with
    |some row=>match pM s lo 0,pM s hi row.es.length with
     |some a,some b=>if row.k=k/\a<=b/\b<=row.es.length/\row.fz=false then some ((s.newRow r {row with es:=(row.es.take b).drop a,app:=row.app && lo.isNone }).put d (.ref r)) else none
     |_,_=>none
    |none=>none
   |_=>none
 | .xL k x y=>match d,eW s x,eW s y with
  |some d0,.ref r,.d (.list k' sR es)=>match look s.rw r with
   |some row=>if row.k=k/\k'=k/\sR=true/\row.fl=true/\row.fz=false/\row.app=true/\es.length=row.es.length then
     some ((s.setRow r {row with es:=es }).put (some d0) (.d (.int .i64 es.length))) else none
   |none=>none
  |_,_,_=>none
 | .Mq x=>match d with
  |some d0=>match eW s x with
   | .ref q=>match look s.rw q with
    |some row=>some ((s.fY q (tB d0 0) row).put (some d0) (.ref (tB d0 0)))
    |none=>none
   |c=>some (s.put (some d0) c)
  |none=>none
 | .jn x y=>match d,eW s x with
  |some d0,.ref r=>match look s.rw r,C_ s r (eW s y) with
   |some row,some es=>if row.k=1/\row.fl=true/\row.fz=false/\row.app=true/\es.length=row.es.length then
     (match jt row.es,jt es with
     |some bs,some cs=>if es≠[] then some ((s.setRow r {row with es:=(cG bs cs).map λb=>[D.bool b] }).put (some d0) (.d (.bool (lb bs cs)))) else none
     |_,_=>none) else none
   |_,_=>none
  |_,_=>none
 | .J7 f x y=>match d,eW s y with
  |some d0,.d (.int .i64 q)=>match rG s (eW s x).cells with
   |some ds=>if iU (rowsOf (eW s x).cells) then (match mf f (eW s x).isAgg ds q with
    |some (ga,q')=>(om s (eW s x).cells ga (ey s (rowsOf (eW s x).cells))).map λs'=>s'.put (some d0) (.d (.int .i64 q'))
    |none=>none) else none
   |none=>none
  |_,_=>none
 |_=>none
def KO.ji:KO->Bool
 | .alloc _=>false
 | .box _=>false
 | .na _ _ _=>false
 | .make _ _ _ _ _=>false
 | .st _ _ _=>false
 | .app _ _ _ _ _=>false
 | .call _ _=>false
 | .J7 _ _ _=>false
 | .cut _ _ _ _=>false
 | .xL _ _ _=>false
 | .jn _ _=>false
 | .Mq _=>false
 |_=>true
def yn(s:St)(d:Option Nat)(o:KO):Option St:=
 if o.ji then (gG s o).map (s.put d) else kc cf mf s d o
def rh(s:St)(i:KI):Option St:=
 match i.gd with
 |none=>yn cf mf s i.dst i.op
 |some (g,want)=>match s.get g with
  | .d (.bool b)=>if b=want then yn cf mf s i.dst i.op else some (s.put i.dst .qZ)
  | .qZ=>some (s.put i.dst .qZ)
  |_=>none
def la:List KI->St->Option St
 |[],s=>some s
 |i::is,s=>match rh cf mf s i with
  |some s'=>la is s'
  |none=>none
def KO.JX:KO->Bool
 | .ld _ _=>true
 | .yk _=>true
 |_=>false
def m_(s:St):KO->Option (Option Nat)
 | .ld _ x=>match eW s x with
  | .ptr b _=>some (some b)
  | .qJ _=>some none
  |_=>none
 | .yk _=>none
 |_=>some none
def dW(s:St)(d:Option Nat):KO->List Nat
 | .st _ x y=>(match eW s x with
   | .ptr b _=>[b]
   | .mY r _ _ _=>r::rowsOf (eW s y).cells
   |_=>[])
 | .na _ _ xs=>d.toList++vE (xs.map (eW s))
 | .app _ _ _ x y=>d.toList++rowsOf [eW s x]++rowsOf [eW s y]
 | .call f xs=>yG s (xs.map (eW s))
 | .J7 _ x _=>rowsOf (eW s x).cells
 | .cut _ x _ _=>d.toList++rowsOf [eW s x]
 | .xL _ x _=>d.toList++rowsOf [eW s x]
 | .jn x _=>d.toList++rowsOf [eW s x]
 |_=>d.toList
def mC(dn:List Nat)(tk:List (List Nat×Nat)):Option Nat->List (List Nat×Nat)
 |some b=>(dn,b)::tk
 |none=>tk
def iq(j:Nat)(tk:List (List Nat×Nat)):List (List Nat×Nat):=tk.filter λp=>!p.1.contains j
def gl{α:Type}(l:List (Nat×α)):List Nat->List (Nat×α)
 |[]=>[]
 |d::ds=>match look l d with
  |some x=>(d,x)::gl l ds
  |none=>gl l ds
def St.cH(s:St)(kp:j6):St:=⟨gl s.sl kp.s,gl s.bx kp.b,gl s.rw kp.r⟩
def j5(x:KD)(tk:List (List Nat×Nat))(s:St)(k:List (List Nat×Nat)->St->Option St):Option St:=
 match rh cf mf s x.i with
 |some s'=>if (iq x.j tk).all (λp=>!(dW s x.i.dst x.i.op).contains p.2 && (look s'.bx p.2).isSome && !(x.i.dst ==some p.2)) then k (iq x.j tk) s' else none
 |none=>none
open Classical in
noncomputable def both{α:Type}:Option α->Option α->Option α
 |some a,some b=>if a=b then some a else none
 |_,_=>none
noncomputable def eJ(kp:j6):KT->List (List Nat×Nat)->St->Option St
 | .nil,_,s=>some (s.cH kp)
 | .op ⟨j,quiet,al,dn,i⟩ is,tk,s=>
  if quiet then
   (match i.gd with
   |none=>(match gG s i.op,m_ s i.op with
    |some c,some b=>eJ kp is (mC dn tk b) (s.put i.dst c)
    |_,_=>none)
   |some (g,want)=>match s.get g with
    | .d (.bool t)=>if t=want then (match gG s i.op,m_ s i.op with
      |some c,some b=>eJ kp is (mC dn tk b) (s.put i.dst c)
      |_,_=>none) else eJ kp is tk (s.put i.dst .qZ)
    | .qZ=>eJ kp is tk (s.put i.dst .qZ)
    |_=>none)
  else j5 cf mf ⟨j,quiet,al,dn,i⟩ tk s (eJ kp is)
 | .alt x is r,tk,s=>both (j5 cf mf x tk s (eJ kp is)) (eJ kp r tk s)
def iter(f:St->Option (Ex×St)):Nat->St->Option (Ex×St)
 |0,_=>none
 |n+1,s=>match f s with
  |some (.norm,s')=>iter f n s'
  |r=>r
def Ni(s:St):C->C
 | .ref r=>match look s.rw r with
  |some x=>.d (.list x.k x.fl x.es)
  |none=>.ref r
 |c=>c
def qc(s:St)(d:Nat):Option St:=
 match s.get d with
 | .ref r=>match look s.rw r with
  |some x=>some ((dH s [r]).put (some d) (.d (.list x.k x.fl x.es)))
  |none=>none
 | .ptr b 0=>match look s.bx b with
  |some cs=>some ((dH s (rowsOf cs)).eO b (cs.map (Ni s)))
  |none=>some s
 |_=>some s
noncomputable def gu(n:Nat):K->St->Option (Ex×St)
 | .skip,s=>some (.norm,s)
 | .cp ops kp,s=>match la cf mf ops s with
  |some s'=>some (.norm,s'.cH kp)
  |none=>none
 | .Lk ops kp,s=>match eJ cf mf kp ops [] s with
  |some s'=>some (.norm,s')
  |none=>none
 | .seq a b,s=>match gu n a s with
  |some (.norm,s')=>gu n b s'
  |r=>r
 | .cond c a b,s=>match eW s c with
  | .d (.bool t)=>if t then gu n a s else gu n b s
  |_=>none
 | .block id a,s=>match gu n a s with
  |some (.exit i,s')=>if i=id then some (.norm,s') else some (.exit i,s')
  |r=>r
 | .loop a,s=>iter (gu n a) n s
 | .exit id,s=>some (.exit id,s)
 | .ret,s=>some (.ret,s)
 | .share r a,s=>gu n a (dH s [r])
 | .I0 d a,s=>match qc s d with
  |some s'=>gu n a s'
  |none=>none
end
inductive KR where
 |t (d:Nat)
 |c (d n:Nat)
structure KF where
 np:Nat
 body:K
 res:List KR
def wm(p:Nat)(a:A)(s:St):St:=
 match a with
 | .val ag vs=>let (l,s'):=dU p 0 vs s;s'.put (some p) (if ag then .agg l else l.headD .any)
 | .box vs=>let (l,s'):=dU (p+500) 0 vs s;(s'.jK (900+p) l).put (some p) (.ptr (900+p) 0)
def iD:Nat->List A->St->St
 |_,[],s=>s
 |p,a::as,s=>iD (p+1) as (wm p a s)
def FM (s : St) : KR -> Option (A × List Nat)
  | .t d => (fp (iK s) (s.get d).cells).map λvs => (.val (s.get d).isAgg vs, rowsOf (s.get d).cells)
  | .c d n => match s.get d with
   | .ptr b 0 => match look s.bx b with
    | some cs => if n = 0 then (match cs with
        | [c] => (fp (iK s) cs).map λvs => (.val false vs, rowsOf cs)
        | _ => none)
      else if cs.length = n then (fp (iK s) cs).map λvs => (.val true vs, rowsOf cs) else none
    | none => none
   | _ => none
def vC(s:St):List KR->Option (List A×List Nat)
 |[]=>some ([],[])
 |r::rs=>match FM s r with
  |some (a,l)=>(vC s rs).map λ(as,l')=>(a::as,l++l')
  |none=>none
def Ov(s:St)(p:Nat):A->Option (List A×List Nat)
 | .val _ _=>some ([],[])
 | .box _=>match look s.bx (900+p) with
  |some cs=>(fp (iK s) cs).map λvs=>([.box vs],rowsOf cs)
  |none=>none
def sr(s:St):Nat->List A->Option (List A×List Nat)
 |_,[]=>some ([],[])
 |p,a::as=>match Ov s p a with
  |some (l,r)=>(sr s (p+1) as).map λ(l',r')=>(l++l',r++r')
  |none=>none
def leave(kf:KF)(args:List A)(s:St):Option (List A×List A):=
 match vC s kf.res,sr s 0 args with
 |some (rs,l),some (outs,l')=>if iU (l++l') then some (rs,outs) else none
 |_,_=>none
noncomputable def Bx(cf:Nat->List A->Option (List A×List A))(mf:Nat->Bool->List D->Int->Option (List D×Int))(n:Nat)(kf:KF)(args:List A):Option (List A×List A):=
 if args.length=kf.np then
  match gu cf mf n kf.body (iD 0 args ⟨[],[],[]⟩) with
  |some (.norm,s)=>leave kf args s
  |some (.ret,s)=>leave kf args s
  |_=>none
 else none
def Oo(t:ByteArray):List (List D)->Int->Option Int
 |[],_=>some (-1)
 |(.str s::_)::es,i=>if s=t then some i else Oo t es (i+1)
 |_,_=>none
def XT(f:Nat)(as:List A):Option (List A×List A):=
 if f=9001 then (match as with
  |[.val false [.d (.int .i64 n)]]=>some ([.val false [.d (.str ⟨(Lib.itoa n).toArray⟩)]],[])
  |_=>none)
 else if f=9002 then (match as with
  |[.val false [.d (.str s)],.val false [.d (.int .u8 c)]]=>some ([.val false [.d (.int .i64 (Lib.indexByte s.data.toList c.toNat.toUInt8))]],[])
  |_=>none)
 else if f=9003 then (match as with
  |[.val false [.d (.list 3 fl es)],.val false [.d (.str t)]]=>(Oo t es 0).map λi=>([.val false [.d (.int .i64 i)]],[])
  |_=>none)
 else none
noncomputable def u9(T:Nat->Option KF):Nat->Nat->List A->Option (List A×List A)
 |0,_,_=>none
 |n+1,f,args=>match T f with
  |none=>none
  |some kf=>if kf.np=999 then XT f args else Bx (u9 T n) (λ_ _ _ _=>none) n kf args
abbrev i_(d:Nat)(o:KO):KI:=⟨some d,o,none⟩
abbrev n_(o:KO):KI:=⟨none,o,none⟩
abbrev g_(d g:Nat)(w:Bool)(o:KO):KI:=⟨some d,o,some (g,w)⟩
abbrev q_(j:Nat)(i:KI)(t:KT):KT:=.op ⟨j,true,[],[],i⟩ t
abbrev l_(j:Nat)(al dn:List Nat)(i:KI)(t:KT):KT:=.op ⟨j,true,al,dn,i⟩ t
abbrev w_(j:Nat)(i:KI)(t:KT):KT:=.op ⟨j,false,[],[],i⟩ t
abbrev S_(d:Nat):KX:=.s d
abbrev Z_(n:Int):KX:=.k (.d (.int .i64 n))
end
section
open Go.RowKit
inductive Own where
 |free
 |box (b:Nat)
 |row (r:Nat)
 |db
 deriving DecidableEq
structure Gh where
 h:Nat->Nat
 β:Nat->Nat
 sl:Nat->Value
 ω:Nat->Own
def dm(h:Nat->Nat)(F:Fp):Prop:=∀be∈F,be.2<=h be.1
def mJ(w:World)(g:Nat):Prop:=g < w.heap.size/\∀j,w.frozen? ⟨g,j,none⟩=false
mutual
def CR(γ:Gh)(w:World):C->Value->Prop
 | .d x,v=>∃F,Rp w x v F/\dm γ.h F
 | .nil k _,v=>v=.slice none 0 0/\0 < k
 | .ref r,v=>v=γ.sl r/\∃A n c,v=.slice A n c
 | .ptr b o,v=>v=.pointer (some ⟨γ.β b,o,none⟩)
 | .mY r k i o,v=>∃g p n c,γ.sl r=.slice (some ⟨g,p,none⟩) n c/\v=.pointer (some ⟨g,p+i * k+o,none⟩)
 | .qJ cs,v=>∃b o vs F,v=.pointer (some ⟨b,o,none⟩)/\eb w cs vs F/\dm γ.h F/\gy w b o vs/\∀j,j < cs.length->o+j < γ.h b
 | .agg cs,v=>∃vs,v=.agg vs.toArray/\dR γ w cs vs
 | .oH cs,v=>∃vs,v=.tuple vs.toArray/\dR γ w cs vs
 | .qZ,v=>v=undef
 | .any,_=>True
def dR(γ:Gh)(w:World):List C->List Value->Prop
 |[],vs=>vs=[]
 |c::cs,vs=>∃v dZ,vs=v::dZ/\CR γ w c v/\dR γ w cs dZ
end
def nh(h:Nat->Nat)(w:World)(x:Row)(v:Value)(F:List Nat):Prop:=
 ∃A n c,v=.slice A n c/\n=x.es.length/\n<=c/\c<=maxLen/\0 < x.k/\(∀e∈x.es,e.length=x.k)/\(x.fl=true->flat x.es)/\
  ((A=none/\c=0/\F=[])\/
   ∃g o xs G,A=some ⟨g,o,none⟩/\g < w.heap.size/\mJ w g/\eH w x.es xs G/\gy w g o xs/\h g<=o+n * x.k/\(x.fz=false->h g=0)/\
    (x.app=true->o=0/\∃T vs,kW w g T vs/\vs.length=c * x.k)/\
    (x.deep=true->F=g::G.map bG/\∀be∈G,h be.1=0/\mJ w be.1)/\(x.deep=false->F=[g]/\dm h G))
structure Inv (γ:Gh) (h0:Nat->Nat) (io:List Nat) (w0:World) (s:St) (f:Fm) (w:World):Prop where
 sl:∀d c,look s.sl d=some c->CR γ w c (f d)
 bx:∀b cs,look s.bx b=some cs->∃T vs,kW w (γ.β b) T vs/\dR γ w cs vs/\γ.ω (γ.β b)=.box b
 rw:∀r x,look s.rw r=some x->∃F,nh γ.h w x (γ.sl r) F/\F.Nodup/\∀g∈F,γ.ω g=.row r
 own:∀g,γ.ω g≠.free->g < w.heap.size/\(w0.heap.size<=g\/g∈io)
 lI:∀g b,γ.ω g=.box b->γ.h g=0
 eN:∀g,w.heap.size<=g->γ.h g=0
 os:w.os=w0.os
 tape:w.tape=w0.tape
 output:w.output=w0.output
 size:w0.heap.size<=w.heap.size
 frame:∀g,g < w0.heap.size->g∉io->w.heap[g]?=w0.heap[g]?
 cell:∀g j,g < w0.heap.size->j < h0 g->w.cell? ⟨g,j,none⟩=w0.cell? ⟨g,j,none⟩
 mono:∀g,g < w0.heap.size->h0 g<=γ.h g
 hold:∀g,g < w0.heap.size->g∉io->γ.h g=h0 g
 eX:∀g,mJ w0 g->mJ w g
section
variable {α:Type}
theorem dN(l:List (Nat×α))(d e:Nat):look (pg l d) e=if d=e then none else look l e:=by
 induction l with
 |nil=>simp[pg,look]
 |cons p l ih=>
  obtain⟨k,x⟩:=p;unfold pg at ih ⊢;by_cases h:k=d
  ·subst h;simp only[List.filter_cons,bne_self_eq_false,av,if_false,ih,look];by_cases h2:k=e<;>simp[h2]
  ·have h':(k !=d)=true:=by simp[h]
   simp only[List.filter_cons,h',if_true,look,ih];by_cases h2:k=e
   ·subst h2;simp[kD h]
   ·simp[h2]
theorem jX(l:List (Nat×α)):∀(ds:List Nat) (e:Nat) (x:α),look (gl l ds) e=some x->look l e=some x
 |[],e,x,h=>by simp[gl,look]at h
 |d::ds,e,x,h=>by
  unfold gl at h;cases hd:look l d with
  |none=>rw[hd]at h;exact jX l ds e x h
  |some y=>
   rw[hd]at h;simp only[look]at h
   split at h
   ·rename_i he;subst he;rw[hd];exact h
   ·exact jX l ds e x h
end
theorem uo(i:Nat)(l:List (Nat×C))(d:Nat):look (LY i l) d=(look l d).map (C.kill i):=by
 induction l with
 |nil=>rfl
 |cons p l ih=>
  obtain⟨k,x⟩:=p;unfold LY at ih ⊢;simp only[aQ,look,ih]
  split<;>rfl
theorem um(i:Nat)(l:List (Nat×List C))(d:Nat):look (LX i l) d=(look l d).map (C.jf i):=by
 induction l with
 |nil=>rfl
 |cons p l ih=>
  obtain⟨k,x⟩:=p;unfold LX at ih ⊢;simp only[aQ,look,ih]
  split<;>rfl
theorem dm.mono{h h':Nat->Nat}{F:Fp}(hs:dm h F)(hh:∀g,h g<=h' g):dm h' F:=λbe hb=>aA (hs be hb) (hh _)
theorem dm.keeps{h:Nat->Nat}{F:Fp}{w w':World}(hs:dm h F)(hc:∀g j,j < h g->w'.cell? ⟨g,j,none⟩=w.cell? ⟨g,j,none⟩):rq F w w':=
 λbe hb j hj=>hc _ j (bp hj (hs be hb))
theorem dm.sub{h:Nat->Nat}{F G:Fp}(hs:dm h F)(hg:∀be∈G,be∈F):dm h G:=λbe hb=>hs be (hg be hb)
theorem dm.append{h:Nat->Nat}{F G:Fp}(hs:dm h F)(hg:dm h G):dm h (F++G):=λbe hb=>by
 rcases aM.1 hb with hb|hb
 ·exact hs be hb
 ·exact hg be hb
mutual
theorem CR.move{γ γ':Gh}{w w':World}(i:Nat)(hh:∀g,γ.h g<=γ'.h g)(hc:∀g j,j < γ.h g->w'.cell? ⟨g,j,none⟩=w.cell? ⟨g,j,none⟩)(Gt:∀b,b≠i->γ'.β b=γ.β b)(sW:∀r,r≠i->γ'.sl r=γ.sl r) :
  ∀(c:C) {v:Value},CR γ w c v->CR γ' w' (C.kill i c) v
 | .d x,v,h=>by
  simp only[CR,C.kill]at h ⊢;obtain⟨F,h1,h2⟩:=h;exact⟨F,h1.cH x (h2.keeps hc),h2.mono hh⟩
 | .nil _ _,v,h=>by simpa only [CR,C.kill] using h
 | .ref r,v,h=>by
  simp only[C.kill];split
  ·simp only[CR]
  ·rename_i hr;simp only[CR]at h ⊢;rw[sW r hr];exact h
 | .ptr b o,v,h=>by
  simp only[C.kill];split
  ·simp only[CR]
  ·rename_i hr;simp only[CR]at h ⊢;rw[Gt b hr];exact h
 | .mY r k a o,v,h=>by
  simp only[C.kill];split
  ·simp only[CR]
  ·rename_i hr;simp only[CR]at h ⊢;rw[sW r hr];exact h
 | .qJ cs,v,h=>by
  simp only[CR,C.kill]at h ⊢;obtain⟨b,o,vs,F,h1,h2,h3,h4,h5⟩:=h;refine⟨b,o,vs,F,h1,h2.cH cs (h3.keeps hc),h3.mono hh,?_,λj hj=>bp (h5 j hj) (hh b)⟩;intro j u hu;have hj:=(aI.1 hu).1;rw[eb.length cs h2]at hj;rw[hc b (o+j) (h5 j hj)];exact h4 j u hu
 | .agg cs,v,h=>by
  simp only[CR,C.kill]at h ⊢;obtain⟨vs,h1,h2⟩:=h;exact⟨vs,h1,dR.move i hh hc Gt sW cs h2⟩
 | .oH cs,v,h=>by
  simp only[CR,C.kill]at h ⊢;obtain⟨vs,h1,h2⟩:=h;exact⟨vs,h1,dR.move i hh hc Gt sW cs h2⟩
 | .qZ,v,h=>by simpa only [CR,C.kill] using h
 | .any,v,h=>by simp only[CR,C.kill]
theorem dR.move{γ γ':Gh}{w w':World}(i:Nat)(hh:∀g,γ.h g<=γ'.h g)(hc:∀g j,j < γ.h g->w'.cell? ⟨g,j,none⟩=w.cell? ⟨g,j,none⟩)(Gt:∀b,b≠i->γ'.β b=γ.β b)(sW:∀r,r≠i->γ'.sl r=γ.sl r) :
  ∀(cs:List C) {vs:List Value},dR γ w cs vs->dR γ' w' (C.jf i cs) vs
 |[],vs,h=>by simpa only [dR,C.jf] using h
 |c::cs,vs,h=>by
  simp only[dR,C.jf]at h ⊢;obtain⟨v,dZ,h1,h2,h3⟩:=h;exact⟨v,dZ,h1,CR.move i hh hc Gt sW c h2,dR.move i hh hc Gt sW cs h3⟩
end
mutual
theorem CR.mono{γ γ':Gh}{w w':World}(hh:∀g,γ.h g<=γ'.h g)(hc:∀g j,j < γ.h g->w'.cell? ⟨g,j,none⟩=w.cell? ⟨g,j,none⟩)(Gt:γ'.β=γ.β)(sW:γ'.sl=γ.sl) :
  ∀(c:C) {v:Value},CR γ w c v->CR γ' w' c v
 | .d x,v,h=>by
  simp only[CR]at h ⊢;obtain⟨F,h1,h2⟩:=h;exact⟨F,h1.cH x (h2.keeps hc),h2.mono hh⟩
 | .nil _ _,v,h=>by simpa only [CR] using h
 | .ref r,v,h=>by simp only[CR]at h ⊢;rw[sW];exact h
 | .ptr b o,v,h=>by simp only[CR]at h ⊢;rw[Gt];exact h
 | .mY r k a o,v,h=>by simp only[CR]at h ⊢;rw[sW];exact h
 | .qJ cs,v,h=>by
  simp only[CR]at h ⊢;obtain⟨b,o,vs,F,h1,h2,h3,h4,h5⟩:=h;refine⟨b,o,vs,F,h1,h2.cH cs (h3.keeps hc),h3.mono hh,?_,λj hj=>bp (h5 j hj) (hh b)⟩;intro j u hu;have hj:=(aI.1 hu).1;rw[eb.length cs h2]at hj;rw[hc b (o+j) (h5 j hj)];exact h4 j u hu
 | .agg cs,v,h=>by
  simp only[CR]at h ⊢;obtain⟨vs,h1,h2⟩:=h;exact⟨vs,h1,dR.mono hh hc Gt sW cs h2⟩
 | .oH cs,v,h=>by
  simp only[CR]at h ⊢;obtain⟨vs,h1,h2⟩:=h;exact⟨vs,h1,dR.mono hh hc Gt sW cs h2⟩
 | .qZ,v,h=>by simpa only [CR] using h
 | .any,v,h=>by simp only[CR]
theorem dR.mono{γ γ':Gh}{w w':World}(hh:∀g,γ.h g<=γ'.h g)(hc:∀g j,j < γ.h g->w'.cell? ⟨g,j,none⟩=w.cell? ⟨g,j,none⟩)(Gt:γ'.β=γ.β)(sW:γ'.sl=γ.sl) :
  ∀(cs:List C) {vs:List Value},dR γ w cs vs->dR γ' w' cs vs
 |[],vs,h=>by simpa only [dR] using h
 |c::cs,vs,h=>by
  simp only[dR]at h ⊢;obtain⟨v,dZ,h1,h2,h3⟩:=h;exact⟨v,dZ,h1,CR.mono hh hc Gt sW c h2,dR.mono hh hc Gt sW cs h3⟩
end
theorem nh.cH{h h':Nat->Nat}{w w':World}{x:Row}{v:Value}{F:List Nat}(hr:nh h w x v F)(hF:∀g∈F,h' g=h g/\w'.heap[g]?=w.heap[g]?)(hh:∀g,h g<=h' g)(hc:∀g j,j < h g->w'.cell? ⟨g,j,none⟩=w.cell? ⟨g,j,none⟩):nh h' w' x v F:=by
 obtain⟨A,n,c,h1,h2,h3,h4,h5,h6,h7,h8⟩:=hr;refine⟨A,n,c,h1,h2,h3,h4,h5,h6,h7,?_⟩;rcases h8 with h8|⟨g,o,xs,G,a1,a2,a3,a4,a5,a6,a7,a8,a9,sL⟩
 ·exact .inl h8
 ·have hg:g∈F:=by
   cases hd:x.deep with
   |true=>rw[(a9 hd).1];simp
   |false=>rw[(sL hd).1];simp
  have hb:=(hF g hg).2;have hk:rq G w w':=by
   cases hd:x.deep with
   |false=>exact (sL hd).2.keeps hc
   |true=>
    intro be nZ j _;exact World.cell?_of_block (w:=w) (hF be.1 (by rw[(a9 hd).1];simp;exact .inr ⟨be.2,nZ⟩)).2
  refine .inr ⟨g,o,xs,G,a1,Fo a2 hb,?_,a4.cH _ hk,a5.cH hb,by rw[(hF g hg).1];exact a6,λhz=>by rw[(hF g hg).1];exact a7 hz,?_,?_,?_⟩
  ·exact⟨Fo a2 hb,λj=>by rw[World.frozen?_of_block (w:=w) hb];exact a3.2 j⟩
  ·intro ha;obtain⟨ho,T,vs,hv,hl⟩:=a8 ha;exact⟨ho,T,vs,hv.cH hb,hl⟩
  ·intro hd;obtain⟨e,hz⟩:=a9 hd;refine⟨e,λbe nZ=>?_⟩;have hm:=hF be.1 (by rw[e];simp;exact .inr ⟨be.2,nZ⟩);refine⟨by rw[hm.1];exact (hz be nZ).1,Fo (hz be nZ).2.1 hm.2,λj=>?_⟩;rw[World.frozen?_of_block (w:=w) hm.2];exact (hz be nZ).2.2 j
  ·intro hd;obtain⟨e,hz⟩:=sL hd;exact⟨e,hz.mono hh⟩
structure sJ (γ:Gh) (M:Own->Prop) (w w':World):Prop where
 os:w'.os=w.os
 tape:w'.tape=w.tape
 output:w'.output=w.output
 size:w.heap.size<=w'.heap.size
 block:∀g,g < w.heap.size->¬M (γ.ω g)->w'.heap[g]?=w.heap[g]?
 cell:∀g j,j < γ.h g->w'.cell? ⟨g,j,none⟩=w.cell? ⟨g,j,none⟩
 eX:∀g,mJ w g->mJ w' g
section
variable {γ:Gh} {h0:Nat->Nat} {io:List Nat} {w0:World} {s:St} {f:Fm} {w:World}
theorem Inv.qL(hi:Inv γ h0 io w0 s f w){w':World}{M:Own->Prop}(ha:sJ γ M w w'):∀g j,j < γ.h g->w'.cell? ⟨g,j,none⟩=w.cell? ⟨g,j,none⟩:=ha.cell
theorem Inv.M7(hi:Inv γ h0 io w0 s f w){w':World}{M:Own->Prop}(ha:sJ γ M w w')(hf:¬M .free)(hb:∀b,M (.box b)->look s.bx b=none)(hr:∀r,M (.row r)->look s.rw r=none):Inv γ h0 io w0 s f w' where
 sl d c hl:=(hi.sl d c hl).mono (γ':=γ) (λ_=>aj _) ha.cell rfl rfl c
 bx b cs hl:=by
  obtain⟨T,vs,h1,h2,h3⟩:=hi.bx b cs hl;refine⟨T,vs,h1.cH (ha.block _ h1.lt ?_),h2.mono (γ':=γ) (λ_=>aj _) ha.cell rfl rfl cs,h3⟩;rw[h3];intro hm;rw[hb b hm]at hl;cases hl
 rw r x hl:=by
  obtain⟨F,h1,h2,h3⟩:=hi.rw r x hl;refine⟨F,h1.cH (λg hg=>⟨rfl,ha.block g (hi.own g (by rw[h3 g hg];simp)).1 ?_⟩) (λ_=>aj _) ha.cell,h2,h3⟩;rw[h3 g hg];intro hm;rw[hr r hm]at hl;cases hl
 own g hg:=⟨bp (hi.own g hg).1 ha.size,(hi.own g hg).2⟩
 lI:=hi.lI
 eN g hg:=hi.eN g (aA ha.size hg)
 os:=ha.os.trans hi.os
 tape:=ha.tape.trans hi.tape
 output:=ha.output.trans hi.output
 size:=aA hi.size ha.size
 frame g hg hn:=by
  refine (ha.block g (bp hg hi.size) ?_).trans (hi.frame g hg hn);have:γ.ω g=.free:=by
   rcases gp (γ.ω g=.free) with h|h
   ·exact h
   ·rcases (hi.own g h).2 with h'|h'
    ·omega
    ·exact absurd h' hn
  rw[this];exact hf
 cell g j hg hj:=(ha.cell g j (bp hj (hi.mono g hg))).trans (hi.cell g j hg hj)
 mono:=hi.mono
 hold:=hi.hold
 eX g hg:=ha.eX g (hi.eX g hg)
theorem Inv.sub(hi:Inv γ h0 io w0 s f w){s':St}(h1:∀d c,look s'.sl d=some c->look s.sl d=some c)(h2:∀d c,look s'.bx d=some c->look s.bx d=some c)(h3:∀d c,look s'.rw d=some c->look s.rw d=some c):Inv γ h0 io w0 s' f w:=
 {hi with sl:=λd c h=>hi.sl d c (h1 d c h),bx:=λd c h=>hi.bx d c (h2 d c h),rw:=λd c h=>hi.rw d c (h3 d c h) }
theorem Inv.get(hi:Inv γ h0 io w0 s f w)(d:Nat):CR γ w (s.get d) (f d):=by
 unfold St.get;cases h:look s.sl d with
 |none=>simp[CR]
 |some c=>exact hi.sl d c h
theorem Inv.put(hi:Inv γ h0 io w0 s f w)(d:Nat)(c:C)(v:Value)(hc:CR γ w c v):Inv γ h0 io w0 (s.put (some d) c) (yi f d v) w:=
 {hi with
  sl:=λe c' h=>by
   simp only[St.put,look]at h;by_cases he:d=e
   ·subst he;simp at h;subst h
    simpa [yi] using hc
   ·rw[if_neg he]at h;have:yi f d v e=f e:=by
     unfold yi;cases hb:jA e d
     ·rfl
     ·exact absurd (mU hb).symm he
    rw[this];exact hi.sl e c' h }
theorem Inv.settle(hi:Inv γ h0 io w0 s f w){h':Nat->Nat}{ω':Nat->Own}(hh:∀g,γ.h g<=h' g)(hs:∀g,h' g≠γ.h g->g < w.heap.size/\(w0.heap.size<=g\/g∈io)/\(∀b cs,look s.bx b=some cs->γ.ω g≠.box b)/\∀r x,look s.rw r=some x->γ.ω g≠.row r)
  (qM:∀g,ω' g=γ.ω g\/((ω' g=.free\/ω' g=.db)/\γ.ω g≠.free/\(∀b cs,look s.bx b=some cs->γ.ω g≠.box b)/\∀r x,look s.rw r=some x->γ.ω g≠.row r)) (hb:∀g b,ω' g=.box b->h' g=0):Inv {γ with h:=h',ω:=ω' } h0 io w0 s f w where
 sl d c hl:=(hi.sl d c hl).mono (γ':={γ with h:=h',ω:=ω' }) hh (λ_ _ _=>rfl) rfl rfl c
 bx b cs hl:=by
  obtain⟨T,vs,h1,h2,h3⟩:=hi.bx b cs hl;refine⟨T,vs,h1,h2.mono (γ':={γ with h:=h',ω:=ω' }) hh (λ_ _ _=>rfl) rfl rfl cs,?_⟩;rcases qM (γ.β b) with h|⟨_,_,h,_⟩
  ·exact h.trans h3
  ·exact absurd h3 (h b cs hl)
 rw r x hl:=by
  obtain⟨F,h1,h2,h3⟩:=hi.rw r x hl;refine⟨F,h1.cH (λg hg=>⟨?_,rfl⟩) hh (λ_ _ _=>rfl),h2,λg hg=>?_⟩
  ·rcases gp (h' g=γ.h g) with h|h
   ·exact h
   ·exact absurd (h3 g hg) ((hs g h).2.2.2 r x hl)
  ·rcases qM g with h|⟨_,_,_,h⟩
   ·exact h.trans (h3 g hg)
   ·exact absurd (h3 g hg) (h r x hl)
 own g hg:=by
  rcases qM g with h|⟨_,h,_⟩
  ·exact hi.own g (by rw[<- h];exact hg)
  ·exact hi.own g h
 lI:=hb
 eN g hg:=by
  rcases gp (h' g=γ.h g) with h|h
  ·exact h.trans (hi.eN g hg)
  ·have:=(hs g h).1;omega
 os:=hi.os
 tape:=hi.tape
 output:=hi.output
 size:=hi.size
 frame:=hi.frame
 cell:=hi.cell
 mono g hg:=aA (hi.mono g hg) (hh g)
 hold g hg hn:=by
  rcases gp (h' g=γ.h g) with h|h
  ·exact h.trans (hi.hold g hg hn)
  ·rcases (hs g h).2.1 with h'|h'
   ·omega
   ·exact absurd h' hn
 eX:=hi.eX
end
end
section
open Go.RowKit
def jo(N:Nat):Operand->KX->Bool
 | .tmp d,.s d'=>d ==d' && fk d N
 | .const (.int k n),.k (.d (.int k' n'))=>k ==k' && n ==n' && k.wrap n ==n
 | .const (.bool b),.k (.d (.bool b'))=>b ==b'
 | .const (.string s),.k (.d (.str s'))=>s.data.toList ==s'.data.toList && nz s.size maxLen
 | .const (.slice none 0 0),.k (.nil k _)=>fk 0 k
 |_,_=>false
section
variable {γ:Gh} {h0:Nat->Nat} {io:List Nat} {w0:World} {s:St} {f:Fm} {w:World} {N:Nat}
theorem gj{k:IntKind}{n:Int}(h:k.wrap n=n):CR γ w (.d (.int k n)) (.int k n):=by
 simp only[CR,Rp];exact⟨[],by simp[h],λ_ h=>by simp at h⟩
theorem gI{b:Bool}:CR γ w (.d (.bool b)) (.bool b):=by
 simp only[CR,Rp];exact⟨[],by simp,λ_ h=>by simp at h⟩
theorem xo{t:ByteArray}(h:t.size<=maxLen):CR γ w (.d (.str t)) (.string t):=by
 simp only[CR,Rp];exact⟨[],by simp[h],λ_ h=>by simp at h⟩
theorem gQ{k:IntKind}{n:Int}{v:Value}(h:CR γ w (.d (.int k n)) v):v=.int k n/\k.wrap n=n:=by
 simp only[CR,Rp]at h;obtain⟨_,⟨h1,_,h2⟩,_⟩:=h;exact⟨h1,h2⟩
theorem ot{b:Bool}{v:Value}(h:CR γ w (.d (.bool b)) v):v=.bool b:=by
 simp only[CR,Rp]at h;obtain⟨_,⟨h1,_⟩,_⟩:=h;exact h1
theorem zG{t:ByteArray}{v:Value}(h:CR γ w (.d (.str t)) v):v=.string t/\t.size<=maxLen:=by
 simp only[CR,Rp]at h;obtain⟨_,⟨h1,_,h2⟩,_⟩:=h;exact⟨h1,h2⟩
theorem FU{a b:ByteArray}(h:a.data.toList=b.data.toList):a=b:=by
 cases a;cases b;simp at h;simp[h]
theorem bH(hi:Inv γ h0 io w0 s f w){x:Operand}{kx:KX}(ok:jo N x kx=true):CR γ w (eW s kx) ((fr f N).eval x):=by
 unfold jo at ok
 split at ok
 ·simp only[ab,beq_iff_eq]at ok;obtain⟨rfl,hd⟩:=ok;rw[yO f (by simpa using hd)];exact hi.get _
 ·simp only[ab,beq_iff_eq]at ok;obtain⟨⟨rfl,rfl⟩,hw⟩:=ok;exact gj hw
 ·simp only[beq_iff_eq]at ok;subst ok;exact gI
 ·simp only[ab,beq_iff_eq,Nat.ble_eq]at ok;obtain⟨he,hw⟩:=ok;rw[FU he]at hw ⊢;exact xo hw
 ·simp only[lE]at ok;simp only[eW,CR];exact⟨rfl,ok⟩
 ·cases ok
end
structure od (γ:Gh) (s:St) (w w':World):Prop where
 cell:∀g j,j < γ.h g->w'.cell? ⟨g,j,none⟩=w.cell? ⟨g,j,none⟩
 bx:∀b cs,look s.bx b=some cs->w'.heap[γ.β b]?=w.heap[γ.β b]?
 rw:∀r x,look s.rw r=some x->∀g,γ.ω g=.row r->w'.heap[g]?=w.heap[g]?
theorem od.refl(γ:Gh)(s:St)(w:World):od γ s w w:=⟨λ_ _ _=>rfl,λ_ _ _=>rfl,λ_ _ _ _ _=>rfl⟩
def yx(N:Nat):List Operand->List KX->Bool
 |[],[]=>true
 |x::xs,y::ys=>jo N x y && yx N xs ys
 |_,_=>false
theorem Bj{γ:Gh}{h0:Nat->Nat}{io:List Nat}{w0:World}{s:St}{f:Fm}{w:World}{N:Nat}(hi:Inv γ h0 io w0 s f w):∀(xs:List Operand) (ys:List KX),yx N xs ys=true->dR γ w (ys.map (eW s)) (xs.map (fr f N).eval)
 |[],[],_=>by simp[dR]
 |[],_::_,h=>by simp[yx]at h
 |_::_,[],h=>by simp[yx]at h
 |x::xs,y::ys,h=>by
  simp only[yx,ab]at h;simp only[aQ,dR];exact⟨_,_,rfl,bH hi h.1,Bj hi xs ys h.2⟩
def okZ:Value->C->Bool
 | .int k n,.d (.int k' n')=>k ==k' && n ==n' && k.wrap n ==n
 | .bool b,.d (.bool b')=>b ==b'
 | .string s,.d (.str s')=>s.data.toList ==s'.data.toList && nz s.size maxLen
 | .slice none 0 0,.nil k _=>fk 0 k
 |_,_=>false
def FC:List Value->List C->Bool
 |[],[]=>true
 |v::vs,c::cs=>okZ v c && FC vs cs
 |_,_=>false
theorem vy{γ:Gh}{w:World}:∀(vs:List Value) (cs:List C),FC vs cs=true->dR γ w cs vs
 |[],[],_=>by simp[dR]
 |[],_::_,h=>by simp[FC]at h
 |_::_,[],h=>by simp[FC]at h
 |v::vs,c::cs,h=>by
  simp only[FC,ab]at h;simp only[dR];refine⟨v,vs,rfl,?_,vy vs cs h.2⟩;have ok:=h.1;unfold okZ at ok
  split at ok
  ·simp only[ab,beq_iff_eq]at ok;obtain⟨⟨rfl,rfl⟩,hw⟩:=ok;exact gj hw
  ·simp only[beq_iff_eq]at ok;subst ok;exact gI
  ·simp only[ab,beq_iff_eq,Nat.ble_eq]at ok;obtain⟨he,hw⟩:=ok;rw[FU he]at hw ⊢;exact xo hw
  ·simp only[lE]at ok;simp only[CR];exact⟨trivial,ok⟩
  ·cases ok
def GD(P:Program)(T:TypeId):Option Bool:=
 match P.underlying T with
 |some (.struct _)=>some true
 |some (.array _ _)=>some true
 |some _=>some false
 |none=>none
def mB(P:Program)(T:TypeId):Option Nat:=(P.info? T).map (·.size)
theorem nE{P:Program}{T:TypeId}{b:Bool}(h:GD P T=some b)(w:World):(isAgg T).run P w=.ok b w:=by
 unfold GD at h;cases hu:P.underlying T with
 |none=>rw[hu]at h;cases h
 |some d=>
  rw[hu]at h;cases d<;>simp at h<;>subst h<;>simp[isAgg,run_underlying hu]
theorem run_sizeOf{P:Program}{T:TypeId}{n:Nat}(h:mB P T=some n)(w:World):(kA T).run P w=.ok n w:=by
 unfold mB at h;cases hu:P.info? T with
 |none=>rw[hu]at h;cases h
 |some i=>
  rw[hu]at h;simp at h;subst h;simp[kA,typeInfo,hu]
def JF(P:Program)(T:TypeId)(i o:Nat):Bool:=
 match P.underlying T with
 |some (.struct fs)=>match fs[i]? with
  |some fd=>fd.offset ==o && (match mB P fd.type with
   |some n=>fk 0 n
   |none=>false)
  |none=>false
 |_=>false
def sliceB(P:Program)(T:TypeId)(k:Nat):Bool:=
 match P.underlying T with
 |some (.slice E)=>mB P E ==some k
 |_=>false
def aaE(P:Program)(T:TypeId)(n k:Nat):Bool:=
 match P.underlying T with
 |some (.array m E)=>m ==n && mB P E ==some k
 |_=>false
def aaF(P:Program)(T:TypeId):Bool:=
 match P.underlying T with
 |some (.array _ E)=>(P.info? E).isSome
 |_=>false
def isStr(P:Program)(T:TypeId):Bool:=
 match P.underlying T with
 |some .string=>true
 |_=>false
def HI(P:Program)(T:TypeId):Bool:=
 match P.underlying T with
 |some (.slice _)=>true
 |_=>false
def FT(P:Program)(T:TypeId):Option Nat:=
 match P.underlying T with
 |some (.slice E)=>mB P E
 |_=>none
def Yu(P:Program)(T:TypeId):Bool:=
 match P.underlying T with
 |some (.slice E)=>(match P.underlying E with
  |some (.int .u8)=>true
  |_=>false)
 |_=>false
def isBool(P:Program)(T:TypeId):Bool:=
 match P.underlying T with
 |some .bool=>true
 |_=>false
def UL(P:Program)(T:TypeId):Option IntKind:=
 match P.underlying T with
 |some (.int k)=>some k
 |_=>none
def vA(P:Program)(T:TypeId):Option (List (Nat×Nat)):=
 match P.underlying T with
 |some (.struct fs)=>fs.toList.mapM (λf=>(P.info? f.type).map λi=>(f.offset,i.size))
 |_=>none
def qS(P:Program)(T:TypeId):Option (List Value):=((P.info? T).bind (·.zero)).map λz=>z.cells.toList
def td(N:Nat)(pl:List (Nat×Nat)):List (Nat×Operand)->List (Nat×Nat×KX)->Bool
 |[],[]=>true
 |(i,x)::ps,(o,n,kx)::ks=>pl[i]? ==some (o,n) && jo N x kx && td N pl ps ks
 |_,_=>false
def yv(N:Nat):Option Operand->Option KX->Bool
 |none,none=>true
 |some x,some y=>jo N x y
 |_,_=>false
theorem my{γ:Gh}{h0:Nat->Nat}{io:List Nat}{w0:World}{s:St}{f:Fm}{w:World}{N:Nat}(hi:Inv γ h0 io w0 s f w){o:Option Operand}{kx:Option KX}{z m:Nat}(bZ:yv N o kx=true)(he:pM s kx z=some m):IX (fr f N).eval o z m:=by
 cases o with
 |none=>
  cases kx with
  |none=>simp only[pM,aa]at he;simp only[IX];exact he.symm
  |some y=>simp[yv]at bZ
 |some x=>
  cases kx with
  |none=>simp[yv]at bZ
  |some y=>
   simp only[yv]at bZ;have hr:=bH hi bZ;simp only[pM]at he
   split at he
   ·rename_i n hn;rw[hn]at hr;obtain⟨hv,_⟩:=gQ hr
    split at he
    ·rename_i h0;simp only[aa]at he;subst he;simp only[IX,hv]
     congr 1
     omega
    ·cases he
   ·cases he
def qx(P:Program)(N:Nat):Op->KO->Bool
 | .move x,.mv y=>jo N x y
 | .assign x,.mv y=>jo N x y
 | .pick c a b,.pick c' a' b'=>jo N c c' && jo N a a' && jo N b b'
 | .build T ps,.build zs ks=>(match qS P T,vA P T with
   |some z,some pl=>FC z zs && td N pl ps.toList ks
   |_,_=>false)
 | .load T x,.ld n y=>jo N x y && (if n=0 then GD P T ==some false else GD P T ==some true && mB P T ==some n)
 | .fieldAddr T x i,.fa o y=>jo N x y && JF P T i o
 | .indexAddr T x i,.ia k y j=>jo N x y && jo N i j && sliceB P T k
 | .build T ps,.zro zs=>ps.isEmpty && aaF P T && (match qS P T with
   |some z=>FC z zs
   |none=>false)
 | .indexAddr T x i,.WL n k y j=>jo N x y && jo N i j && aaE P T n k
 | .index T x i,.kV y j=>jo N x y && jo N i j && isStr P T
 | .binOp op T x y _,.bin op' x' y'=>decide (op=op') && jo N x x' && jo N y y'
 | .binOp op T x y _,.uG op' x' y'=>decide (op=op') && jo N x x' && jo N y y' && isBool P T
 | .unOp .not _ x,.not y=>jo N x y
 | .unOp .neg _ x,.neg y=>jo N x y
 | .convert T T' x,.conv k y=>jo N x y && (UL P T).isSome && UL P T' ==some k
 | .call c,.len y=>(match c.callee,c.args.toList,c.argTypes.toList with
   | .builtin .len,[x],[T]=>jo N x y && HI P T
   |_,_,_=>false)
 | .call c,.kJ y=>(match c.callee,c.args.toList,c.argTypes.toList with
   | .builtin .len,[x],[T]=>jo N x y && isStr P T
   |_,_,_=>false)
 | .call c,.min y y'=>(match c.callee,c.args.toList with
   | .builtin .min,[x,x']=>jo N x y && jo N x' y'
   |_,_=>false)
 | .call c,.max y y'=>(match c.callee,c.args.toList with
   | .builtin .max,[x,x']=>jo N x y && jo N x' y'
   |_,_=>false)
 | .extract x i,.ext y j=>jo N x y && i ==j
 | .slice T x none (some h) none,.slc y j=>jo N x y && jo N h j && HI P T && (FT P T).isSome
 | .slice T x lo hi none,.I_ y l h=>jo N x y && yv N lo l && yv N hi h && isStr P T
 | .slice T x lo hi none,.yc k y l h=>jo N x y && yv N lo l && yv N hi h && FT P T ==some k
 | .nilCheck x,.WW y=>jo N x y
 | .convert T T' x,.yk y=>jo N x y && isStr P T' && Yu P T
 |_,_=>false
theorem cU{α:Type}:∀(l:List α) (i:Nat),nth l i=l[i]?
 |[],i=>by simp[nth]
 |x::l,0=>by simp[nth]
 |x::l,i+1=>by simp[nth,cU l i]
theorem dR.length{γ:Gh}{w:World}:∀{cs:List C} {vs:List Value},dR γ w cs vs->vs.length=cs.length
 |[],_,h=>by simp only[dR]at h;simp[h]
 |c::cs,_,h=>by
  simp only[dR]at h;obtain⟨v,dZ,rfl,_,h3⟩:=h;simp[dR.length h3]
theorem dR.at_{γ:Gh}{w:World}:∀{cs:List C} {vs:List Value},dR γ w cs vs->∀{i:Nat} {c:C},cs[i]?=some c->∃v,vs[i]?=some v/\CR γ w c v
 |[],_,_,i,c,hi=>by simp at hi
 |x::cs,_,h,i,c,hi=>by
  simp only[dR]at h;obtain⟨v,dZ,rfl,h2,h3⟩:=h;cases i with
  |zero=>simp at hi;subst hi;exact⟨v,rfl,h2⟩
  |succ i=>simp at hi;simpa using dR.at_ h3 hi
theorem dR.drop{γ:Gh}{w:World}:∀{cs:List C} {vs:List Value} (n:Nat),dR γ w cs vs->dR γ w (cs.drop n) (vs.drop n)
 |cs,_,0,h=>by simpa using h
 |[],_,n+1,h=>by simp only[dR]at h;subst h;simp[dR]
 |c::cs,_,n+1,h=>by
  simp only[dR]at h;obtain⟨v,dZ,rfl,_,h3⟩:=h
  simpa using dR.drop n h3
theorem dR.take{γ:Gh}{w:World}:∀{cs:List C} {vs:List Value} (n:Nat),dR γ w cs vs->dR γ w (cs.take n) (vs.take n)
 |cs,_,0,h=>by simp[dR]
 |[],_,n+1,h=>by simp only[dR]at h;subst h;simp[dR]
 |c::cs,_,n+1,h=>by
  simp only[dR]at h;obtain⟨v,dZ,rfl,h2,h3⟩:=h;simp only[cx,dR];exact⟨v,_,rfl,h2,dR.take n h3⟩
theorem dR.append{γ:Gh}{w:World}:∀{cs ds:List C} {vs us:List Value},dR γ w cs vs->dR γ w ds us->dR γ w (cs++ds) (vs++us)
 |[],_,_,_,h,h'=>by simp only[dR]at h;subst h;simpa using h'
 |c::cs,_,_,_,h,h'=>by
  simp only[dR]at h;obtain⟨v,dZ,rfl,h2,h3⟩:=h;simp only[ai,dR];exact⟨v,_,rfl,h2,dR.append h3 h'⟩
theorem dR.ZX{γ:Gh}{w:World}{cs ds:List C}{vs us:List Value}(o:Nat)(h:dR γ w cs vs)(h':dR γ w ds us):dR γ w (fR cs o ds) (cZ vs o us):=by
 unfold fR cZ;rw[<- h'.length];exact ((h.take o).append h').append (h.drop _)
theorem dR.ofC{γ:Gh}{w:World}:∀{ds:List D} {vs:List Value} {F:Fp},eb w ds vs F->dm γ.h F->dR γ w (ds.map .d) vs
 |[],_,_,h,_=>by simp only[eb]at h;simp[dR,h.1]
 |d::ds,_,_,h,hs=>by
  simp only[eb]at h;obtain⟨v,dZ,F1,F2,rfl,rfl,h3,h4⟩:=h;simp only[aQ,dR];refine⟨v,dZ,rfl,?_,dR.ofC h4 (hs.sub (by simp_all))⟩;simp only[CR];exact⟨F1,h3,hs.sub (by simp_all)⟩
theorem CR.cells{γ:Gh}{w:World}{c:C}{v:Value}(h:CR γ w c v)(hc:c.cells.all C.cell=true):dR γ w c.cells v.cells.toList/\(c.isAgg=false->v.cells=#[v])/\(c.isAgg=true->∃vs:List Value,v=.agg vs.toArray):=by
 cases c with
 |agg cs=>
  simp only[CR]at h;obtain⟨vs,rfl,h2⟩:=h;exact⟨by simpa [C.cells,Value.cells] using h2,by simp[C.isAgg],λ_=>⟨vs,rfl⟩⟩
 |d x=>
  have h':=h;simp only[CR]at h;obtain⟨F,h1,_⟩:=h;have ho:=h1.qN;have e:v.cells=#[v]:=by cases v<;>simp_all[Value.cells,one]
  refine⟨?_,λ_=>e,by simp[C.isAgg]⟩;rw[e];simp only[C.cells,dR];exact⟨v,[],rfl,h',rfl⟩
 |nil k fl=>
  have h':=h;simp only[CR]at h;obtain⟨rfl,_⟩:=h;refine⟨?_,λ_=>rfl,by simp[C.isAgg]⟩;simp only[C.cells,Value.cells,dR];exact⟨_,[],rfl,h',rfl⟩
 |ref r=>
  have h':=h;simp only[CR]at h;obtain⟨_,A,n,c,rfl⟩:=h;refine⟨?_,λ_=>rfl,by simp[C.isAgg]⟩;simp only[C.cells,Value.cells,dR];exact⟨_,[],rfl,h',rfl⟩
 |ptr _ _=>simp[C.cells,C.cell]at hc
 |mY _ _ _ _=>simp[C.cells,C.cell]at hc
 |qJ _=>simp[C.cells,C.cell]at hc
 |oH _=>simp[C.cells,C.cell]at hc
 |qZ=>simp[C.cells,C.cell]at hc
 |any=>simp[C.cells,C.cell]at hc
theorem R5(off:Nat):∀(vs:List Value) (j:Nat) (A:Array Value),off+j+vs.length<=A.size->(vs.zipIdx j).foldl (λa p=>a.setIfInBounds (off+p.2) p.1) A=(cZ A.toList (off+j) vs).toArray
 |[],j,A,_=>by simp[cZ]
 |v::vs,j,A,h=>by
  simp only[az]at h;simp only[List.zipIdx_cons,tq];rw[R5 off vs (j+1) _ (by simp;omega),<- du,<- ye _ _ _ _ (by simp;omega)];simp
theorem MH(off:Nat)(vs:List Value)(A:Array Value)(h:off+vs.length<=A.size):vs.toArray.zipIdx.foldl (λa (c,j)=>a.setIfInBounds (off+j) c) A=(cZ A.toList off vs).toArray:=by
 have h1:=R5 off vs 0 A (by simpa using h);rw[<- Array.foldl_toList]
 simpa using h1
theorem Hi{γ:Gh}{h0:Nat->Nat}{io:List Nat}{w0:World}{s:St}{f:Fm}{w:World}{N:Nat}(hi:Inv γ h0 io w0 s f w){pl:List (Nat×Nat)}{place:Nat->Option (Nat×Nat)}(hp:∀i,place i=pl[i]?) :
  ∀(ps:List (Nat×Operand)) (ks:List (Nat×Nat×KX)) (zs:List C) (zv:List Value) (iC:List C),td N pl ps ks=true->dR γ w zs zv->xP zs (ks.map λp=>(p.1,p.2.1,(eW s p.2.2).cells))=some iC->
   ∃dZ:List Value,Instr.fill place zv.toArray (ps.map λp=>(p.1,(fr f N).eval p.2))=some dZ.toArray/\dR γ w iC dZ
 |[],[],zs,zv,iC,_,hz,hf=>by
  simp only[dB,xP,aa]at hf;subst hf;exact⟨zv,rfl,hz⟩
 |[],_::_,_,_,_,h,_,_=>by simp[td]at h
 |_::_,[],_,_,_,h,_,_=>by simp[td]at h
 |(i,x)::ps,(o,n,kx)::ks,zs,zv,iC,h,hz,hf=>by
  simp only[td,ab,beq_iff_eq]at h;obtain⟨⟨h1,h2⟩,h3⟩:=h;simp only[aQ,xP]at hf
  split at hf
  ·rename_i hc;obtain⟨c1,c2,c3⟩:=hc;have hx:=bH hi h2;obtain⟨hr,_,_⟩:=hx.cells c3;have hl:=hr.length;obtain⟨dZ,h4,h5⟩:=Hi hi hp ps ks _ _ iC h3 (hz.ZX o hr) hf;refine⟨dZ,?_,h5⟩;simp only[aQ,Instr.fill,hp,h1];have mE:((fr f N).eval x).cells.size=n:=by rw[<- eK,hl];exact c1
   have hz':=hz.length;rw[if_neg (by simp only[pV];simp;omega)];have e:((fr f N).eval x).cells.zipIdx.foldl (λcs (c,j)=>cs.setIfInBounds (o+j) c) zv.toArray=(cZ zv o ((fr f N).eval x).cells.toList).toArray:=by
    have:=MH o ((fr f N).eval x).cells.toList zv.toArray (by simp;omega)
    simpa using this
   rw[e];exact h4
  ·cases hf
theorem PE{P:Program}{T:TypeId}{z:List Value}{pl:List (Nat×Nat)}(hz:qS P T=some z)(hp:vA P T=some pl)(parts:List (Nat×Value)):P.built T parts=Instr.fill (λi=>pl[i]?) z.toArray parts:=by
 unfold vA at hp;unfold qS at hz;cases hi:P.info? T with
 |none=>rw[hi]at hz;simp at hz
 |some it=>
  rw[hi]at hz;cases UH:it.zero with
  |none=>simp[UH]at hz
  |some z0=>
   simp[UH]at hz;subst hz
   split at hp
   ·rename_i fs hu;simp only[Program.built,hi,hu,UH,hp];simp
   ·cases hp
section
variable {P:Program} {γ:Gh} {h0:Nat->Nat} {io:List Nat} {w0:World} {s:St} {f:Fm} {w:World} {N:Nat} {dst:Option Tmp} {ty:TypeId} {pos:String} {aft:Array Edge} {gd:Option (Nat×Bool)}
theorem Vn(hi:Inv γ h0 io w0 s f w){T:TypeId}{ps:Array (Nat×Operand)}{zs:List C}{ks:List (Nat×Nat×KX)}{c:C}(bZ:qx P N (.build T ps) (.build zs ks)=true)(he:gG s (.build zs ks)=some c) :
  ∃v,CR γ w c v/\∀w',(execOp (fr f N).eval ⟨dst,.build T ps,ty,pos,aft,gd⟩).run P w'=.ok (.value v) w':=by
 simp only[qx]at bZ
 split at bZ
 ·rename_i z pl hz hp;simp only[ab]at bZ;simp only[gG,ad]at he;obtain⟨iC,he,rfl⟩:=he;obtain⟨dZ,h1,h2⟩:=Hi hi (place:=λi=>pl[i]?) (λ_=>rfl) ps.toList ks zs z iC bZ.2 (vy _ _ bZ.1) he;refine⟨.agg dZ.toArray,by simp only[CR];exact⟨dZ,rfl,h2⟩,λw'=>?_⟩;have hb:=run_build (P:=P) w' T (ps.map λ(i,x)=>(i,(fr f N).eval x)) dZ.toArray (by rw[PE hz hp];simpa using h1);simp[execOp,hb]
 ·cases bZ
theorem acP(hi:Inv γ h0 io w0 s f w){T:TypeId}{ps:Array (Nat×Operand)}{zs:List C}{c:C}(bZ:qx P N (.build T ps) (.zro zs)=true)(he:gG s (.zro zs)=some c) :
  ∃v,CR γ w c v/\∀w',(execOp (fr f N).eval ⟨dst,.build T ps,ty,pos,aft,gd⟩).run P w'=.ok (.value v) w':=by
 simp only[qx,ab,Array.isEmpty_iff]at bZ;obtain⟨⟨rfl,ha⟩,bZ⟩:=bZ
 split at bZ
 ·rename_i z hz;simp only[gG]at he
  split at he
  ·simp only[aa]at he;subst he;refine⟨.agg z.toArray,by simp only[CR];exact⟨z,rfl,vy _ _ bZ⟩,λw'=>?_⟩;have hb:P.built T []=some z.toArray:=by
    unfold qS at hz;unfold aaF at ha;cases hi:P.info? T with
    |none=>rw[hi]at hz;simp at hz
    |some it=>
     rw[hi]at hz;cases UH:it.zero with
     |none=>simp[UH]at hz
     |some z0=>
      simp[UH]at hz;subst hz
      split at ha
      ·rename_i m E hu;rw[bF]at ha;obtain⟨ie,hie⟩:=ha;simp[Program.built,hi,hu,UH,hie,Instr.fill]
      ·cases ha
   have hr:=run_build (P:=P) w' T #[] z.toArray hb;simp[execOp,hr]
  ·cases he
 ·cases bZ
theorem YT(hi:Inv γ h0 io w0 s f w){T:TypeId}{x:Operand}{y:KX}{n:Nat}{c:C}(bZ:qx P N (.load T x) (.ld n y)=true)(he:gG s (.ld n y)=some c) :
  ∃v,CR γ w c v/\∀w',od γ s w w'->(execOp (fr f N).eval ⟨dst,.load T x,ty,pos,aft,gd⟩).run P w'=.ok (.value v) w':=by
 simp only[qx,ab]at bZ;obtain⟨hx,jO⟩:=bZ;have hr:=bH hi hx;have fin:∀(b o:Nat) (vs:List Value),(fr f N).eval x=.pointer (some ⟨b,o,none⟩)->(∀w',od γ s w w'->gy w' b o vs)->(n=0->vs.length=1)->(n≠0->vs.length=n)->
   ∀w',od γ s w w'->(execOp (fr f N).eval ⟨dst,.load T x,ty,pos,aft,gd⟩).run P w'=.ok (.value (if n=0 then vs.headD undef else .agg vs.toArray)) w':=by
  intro b o vs hp hl h1 h2 w' hs;by_cases hn:n=0
  ·subst hn;simp only[if_true,beq_iff_eq]at jO ⊢;obtain⟨v,rfl⟩:=cJ.1 (h1 rfl);exact F_ (λw=>nE jO w) hp (by have:=hl w' hs 0 v rfl;simpa using this)
  ·simp only[if_neg hn,ab,beq_iff_eq]at jO ⊢;exact Gd (λw=>nE jO.1 w) (λw=>run_sizeOf jO.2 w) hp (h2 hn) (hl w' hs)
 simp only[gG]at he
 split at he
 ·rename_i b o hb;rw[hb]at hr;simp only[CR]at hr
  split at he
  ·rename_i cs hl;obtain⟨T',vs,h1,h2,h3⟩:=hi.bx b cs hl;have hlen:=h2.length;have gD:∀(m:Nat) w',od γ s w w'->gy w' (γ.β b) o ((vs.drop o).take m):=by
    intro m w' hs;have:=(h1.cH (hs.bx b cs hl)).J0;have h4:=this.sub o m
    simpa using h4
   by_cases hn:n=0
   ·subst hn;simp only[if_true,cU]at he;obtain⟨v,hv,hc⟩:=h2.at_ he;have ig:=(aI.1 hv).1;have e1:(vs.drop o).take 1=[v]:=by
     rw[nf,nX,hv];rfl
    refine⟨v,hc,λw' hs=>?_⟩;have:=fin _ _ _ hr (gD 1) (λ_=>by rw[e1];rfl) (λh=>absurd rfl h) w' hs;rw[e1]at this
    simpa using this
   ·rw[if_neg hn]at he
    split at he
    ·rename_i ho;simp only[aa]at he;subst he;refine⟨.agg ((vs.drop o).take n).toArray,by simp only[CR];exact⟨_,rfl,(h2.drop o).take n⟩,λw' hs=>?_⟩;have:=fin _ _ _ hr (gD n) (λh=>absurd h hn) (λ_=>by simp;omega) w' hs
     simpa [hn] using this
    ·cases he
  ·cases he
 ·rename_i cs hb;rw[hb]at hr;simp only[CR]at hr;obtain⟨b,o,vs,F,hp,NG,jV,hl,hh⟩:=hr;have hlen:=eb.length cs NG;have gD:∀(m:Nat) w',od γ s w w'->gy w' b o (vs.take m):=by
   intro m w' hs;have:gy w' b o vs:=by
    intro j u hu;have hj:=(aI.1 hu).1;rw[hs.cell b (o+j) (hh j (by omega))];exact hl j u hu
   have h4:=this.sub 0 m
   simpa using h4
  by_cases hn:n=0
  ·subst hn;simp only[if_true,cU,ad]at he;obtain⟨d,hd,rfl⟩:=he;obtain⟨v,G,hv,uJ,hG⟩:=NG.at_ hd;have e1:vs.take 1=[v]:=by
    rw[nf,List.head?_eq_getElem?,hv];rfl
   refine⟨v,by simp only[CR];exact⟨G,uJ,jV.sub hG⟩,λw' hs=>?_⟩;have:=fin _ _ _ hp (gD 1) (λ_=>by rw[e1];rfl) (λh=>absurd rfl h) w' hs;rw[e1]at this
   simpa using this
  ·rw[if_neg hn]at he
   split at he
   ·rename_i ho;simp only[aa]at he;subst he;obtain⟨G,h4,h5⟩:=eb.take cs n NG;refine⟨.agg (vs.take n).toArray,by simp only[CR];exact⟨_,rfl,dR.ofC h4 (jV.sub h5)⟩,λw' hs=>?_⟩;have:=fin _ _ _ hp (gD n) (λh=>absurd h hn) (λ_=>by simp;omega) w' hs
    simpa [hn] using this
   ·cases he
 ·rename_i r k i o hb;rw[hb]at hr;simp only[CR]at hr;obtain⟨g,p,m,cc,sW,hp⟩:=hr
  split at he
  ·rename_i row hl
   split at he
   ·rename_i e Ep
    split at he
    ·rename_i hc;obtain⟨hk,ho,hpl⟩:=hc;subst hk;obtain⟨F,hR,_,qM⟩:=hi.rw r row hl;obtain⟨A,n',c',q1,q2,q3,q4,q5,q6,q7,q8⟩:=hR;rw[sW]at q1;simp only[Value.slice.injEq]at q1;obtain⟨rfl,rfl,rfl⟩:=q1;rcases q8 with ⟨q8,_⟩|⟨g',p',xs,G,a1,a2,a3,a4,a5,a6,a7,a8,a9,sL⟩
     ·cases q8
     ·simp only[aa,Addr.mk.injEq,and_true]at a1;obtain⟨rfl,rfl⟩:=a1;rw[cU]at Ep;obtain⟨G',NG,hG'⟩:=a4.at_ q6 Ep;have hlx:=eH.length row.es a4 q6;have X5:=(aI.1 Ep).1;have yp:=q6 e (cK Ep);have Wu:g∈F:=by
       cases hd:row.deep with
       |true=>rw[(a9 hd).1];simp
       |false=>rw[(sL hd).1];simp
      have gD:∀(m:Nat) w',od γ s w w'->gy w' g (p+i * row.k+o) ((((xs.drop (i * row.k)).take row.k).drop o).take m):=by
       intro m w' hs;have h1:gy w' g p xs:=a5.cH (hs.rw r row hl g (qM g Wu));have h2:=(h1.sub (i * row.k) row.k).sub o m;exact h2
      have WE:∀(m:Nat),cQ ((e.drop o).take m)=true\/row.deep=false->∃G2,eb w ((e.drop o).take m) ((((xs.drop (i * row.k)).take row.k).drop o).take m) G2/\dm γ.h G2:=by
       intro m hm;obtain⟨G1,r1,s1⟩:=eb.drop e o NG;obtain⟨G2,r2,s2⟩:=eb.take _ m r1;refine⟨G2,r2,?_⟩;rcases hm with hm|hm
       ·have:G2=[]:=r2.plain (by simpa [cQ] using hm);subst this;exact λ_ h=>by simp at h
       ·exact (sL hm).2.sub (λbe hb=>hG' be (s1 be (s2 be hb)))
      have abC:∀m,m=max n 1->cQ ((e.drop o).take m)=true\/row.deep=false:=by
       intro m hm;subst hm
       simpa using hpl
      have hlen:((xs.drop (i * row.k)).take row.k).length=row.k:=by
       rw[eb.length e NG,yp]
      by_cases hn:n=0
      ·subst hn;simp only[if_true,cU,ad]at he;obtain⟨d,hd,rfl⟩:=he;obtain⟨G2,r2,s2⟩:=WE 1 (abC 1 (by simp));have e1:(e.drop o).take 1=[d]:=by rw[nf,nX,hd];rfl
       rw[e1]at r2;obtain⟨v,G3,hv,uJ,hG4⟩:=r2.at_ (i:=0) (d:=d) rfl;have e2:(((xs.drop (i * row.k)).take row.k).drop o).take 1=[v]:=by
        have I2:=eb.length _ r2;simp only[az,aK]at I2;obtain⟨u,hu⟩:=cJ.1 I2;rw[hu]at hv ⊢;simp at hv;rw[hv]
       refine⟨v,by simp only[CR];exact⟨G3,uJ,s2.sub hG4⟩,λw' hs=>?_⟩;have:=fin _ _ _ hp (gD 1) (λ_=>by rw[e2];rfl) (λh=>absurd rfl h) w' hs;rw[e2]at this
       simpa using this
      ·rw[if_neg hn]at he;simp only[aa]at he;subst he;have X9:max n 1=n:=by omega
       obtain⟨G2,r2,s2⟩:=WE n (abC n X9.symm);refine⟨.agg ((((xs.drop (i * row.k)).take row.k).drop o).take n).toArray,by simp only[CR];exact⟨_,rfl,dR.ofC r2 s2⟩,λw' hs=>?_⟩;have:=fin _ _ _ hp (gD n) (λh=>absurd h hn) (λ_=>by simp only[a_,gL,hlen];omega) w' hs
       simpa [hn] using this
    ·cases he
   ·cases he
  ·cases he
 ·cases he
theorem ahp(hi:Inv γ h0 io w0 s f w){T:TypeId}{x:Operand}{y:KX}{i o:Nat}{c:C}(bZ:qx P N (.fieldAddr T x i) (.fa o y)=true)(he:gG s (.fa o y)=some c) :
  ∃v,CR γ w c v/\∀w',(execOp (fr f N).eval ⟨dst,.fieldAddr T x i,ty,pos,aft,gd⟩).run P w'=.ok (.value v) w':=by
 simp only[qx,ab]at bZ;obtain⟨hx,jO⟩:=bZ;have hr:=bH hi hx;unfold JF at jO
 split at jO
 ·rename_i fs hu
  split at jO
  ·rename_i fd hfd;simp only[ab,beq_iff_eq]at jO;obtain⟨ho,mE⟩:=jO
   split at mE
   ·rename_i n hn;simp only[lE]at mE;obtain⟨m,rfl⟩:∃m,n=m+1:=⟨n - 1,by omega⟩
    have fin:∀b p,(fr f N).eval x=.pointer (some ⟨b,p,none⟩)->∀w',(execOp (fr f N).eval ⟨dst,.fieldAddr T x i,ty,pos,aft,gd⟩).run P w'=.ok (.value (.pointer (some ⟨b,p+o,none⟩))) w':=
     λb p hp w'=>MX hu hfd (λw=>run_sizeOf hn w) ho hp
    simp only[gG]at he
    split at he
    ·rename_i b p hb;rw[hb]at hr;simp only[CR]at hr;simp only[aa]at he;subst he;exact⟨_,by simp only[CR],fin _ _ hr⟩
    ·rename_i cs hb;rw[hb]at hr;simp only[CR]at hr;simp only[aa]at he;subst he;obtain⟨b,p,vs,F,hp,NG,jV,hl,hh⟩:=hr;obtain⟨G,h4,h5⟩:=eb.drop cs o NG;refine⟨_,?_,fin _ _ hp⟩;simp only[CR];refine⟨b,p+o,vs.drop o,G,rfl,h4,jV.sub h5,?_,?_⟩
     ·intro j u hu;rw[gV]at hu;rw[du];exact hl _ u hu
     ·intro j hj;rw[gL]at hj;rw[du];exact hh _ (by omega)
    ·rename_i r k i' p hb;rw[hb]at hr;simp only[CR]at hr;simp only[aa]at he;subst he;obtain⟨g,q,n,cc,h1,h2⟩:=hr;refine⟨_,?_,fin _ _ h2⟩;simp only[CR];exact⟨g,q,n,cc,h1,by rw[du (q+i' * k)]⟩
    ·cases he
   ·cases mE
  ·cases jO
 ·cases jO
theorem ahq(hi:Inv γ h0 io w0 s f w){T:TypeId}{x ix:Operand}{y j:KX}{k:Nat}{c:C}(bZ:qx P N (.indexAddr T x ix) (.ia k y j)=true)(he:gG s (.ia k y j)=some c) :
  ∃v,CR γ w c v/\∀w',(execOp (fr f N).eval ⟨dst,.indexAddr T x ix,ty,pos,aft,gd⟩).run P w'=.ok (.value v) w':=by
 simp only[qx,ab]at bZ;obtain⟨⟨hx,hj⟩,jO⟩:=bZ;have hr:=bH hi hx;have yR:=bH hi hj;unfold sliceB at jO
 split at jO
 ·rename_i E hu;simp only[beq_iff_eq]at jO;simp only[gG]at he
  split at he
  ·rename_i k' fl es n hb hn;rw[hb]at hr;rw[hn]at yR;obtain⟨rj,_⟩:=gQ yR
   split at he
   ·rename_i hc;obtain⟨h1,rfl⟩:=hc;simp only[cU,ad]at he;obtain⟨e,Ep,rfl⟩:=he;simp only[CR,Rp]at hr;obtain⟨F,⟨A,m,cc,q1,q2,q3,q4,q5,q6,q7,q8⟩,jV⟩:=hr;have ig:=(aI.1 Ep).1;rcases q8 with ⟨q8,_⟩|⟨_,b,o,xs,G,rfl,rfl,a2,a3⟩
    ·omega
    ·refine⟨.pointer (some ⟨b,o+n.toNat * k',none⟩),?_,λw'=>qC hu (λw=>run_sizeOf jO w) q1 rj (by omega) (by omega)⟩;obtain⟨G',NG,hG'⟩:=a2.at_ q7 Ep;simp only[CR];refine⟨b,_,_,G',rfl,NG,jV.sub (λbe hb=>by simp[hG' be hb]),a3.sub _ _,?_⟩;intro i oU;have yp:=q7 e (cK Ep);have hs:=jV (b,o+m * k') (by simp);simp only at hs
     have:n.toNat * k'+k'<=m * k':=by
      rw[<- iG];exact ew _ (by omega)
     omega
   ·cases he
  ·rename_i r n hb hn;rw[hb]at hr;rw[hn]at yR;obtain⟨rj,_⟩:=gQ yR
   split at he
   ·rename_i row hl
    split at he
    ·rename_i hc;obtain⟨h1,h2,rfl⟩:=hc;simp only[aa]at he;subst he;simp only[CR]at hr;obtain⟨hr,_⟩:=hr;obtain⟨F,hR,_,qM⟩:=hi.rw r row hl;obtain⟨A,n',c',q1,q2,q3,q4,q5,q6,q7,q8⟩:=hR;rcases q8 with ⟨rfl,q8,_⟩|⟨g',p',xs,G,rfl,a2,a3,a4,a5,a6,a7,a8,a9,sL⟩
     ·omega
     ·refine⟨.pointer (some ⟨g',p'+n.toNat * row.k,none⟩),?_,λw'=>qC hu (λw=>run_sizeOf jO w) (hr.trans q1) rj (by omega) (by omega)⟩;simp only[CR];exact⟨g',p',n',c',q1,by simp⟩
    ·cases he
   ·cases he
  ·cases he
 ·cases jO
theorem Tn{ρ:Operand->Value}{x y:Operand}{b o n:Nat}{i:Nat}{a:Int}{T E:TypeId}{k:Nat}(hU:P.underlying T=some (.array n E))(hS:∀w,(kA E).run P w=.ok k w)(hx:ρ x=.pointer (some ⟨b,o,none⟩))(hy:ρ y=.int .i64 a)(ha:a=(i:Int))(hi:i < n) :
  (execOp ρ ⟨dst,.indexAddr T x y,ty,pos,aft,gd⟩).run P w=.ok (.value (.pointer (some ⟨b,o+i * k,none⟩))) w:=by
 subst ha;simp[execOp,Instr.indexAt,hx,hy,asIntOf,Instr.sureAddr,run_underlying hU,hS,nI,hi]
theorem acK(hi:Inv γ h0 io w0 s f w){T:TypeId}{x ix:Operand}{y j:KX}{n k:Nat}{c:C}(bZ:qx P N (.indexAddr T x ix) (.WL n k y j)=true)(he:gG s (.WL n k y j)=some c) :
  ∃v,CR γ w c v/\∀w',(execOp (fr f N).eval ⟨dst,.indexAddr T x ix,ty,pos,aft,gd⟩).run P w'=.ok (.value v) w':=by
 simp only[qx,ab]at bZ;obtain⟨⟨hx,hj⟩,jO⟩:=bZ;have hr:=bH hi hx;have yR:=bH hi hj;unfold aaE at jO
 split at jO
 ·rename_i m E hu;simp only[ab,beq_iff_eq]at jO;obtain⟨rfl,mE⟩:=jO;simp only[gG]at he
  split at he
  ·rename_i b o q hb hn;rw[hb]at hr;rw[hn]at yR;obtain⟨rj,_⟩:=gQ yR;simp only[CR]at hr
   split at he
   ·rename_i hc;simp only[aa]at he;subst he;exact⟨_,by simp only[CR],λw'=>Tn hu (λw=>run_sizeOf mE w) hr rj (by omega) hc.2⟩
   ·cases he
  ·cases he
 ·cases jO
theorem acL(hi:Inv γ h0 io w0 s f w){T:TypeId}{x ix:Operand}{y j:KX}{c:C}(bZ:qx P N (.index T x ix) (.kV y j)=true)(he:gG s (.kV y j)=some c) :
  ∃v,CR γ w c v/\∀w',(execOp (fr f N).eval ⟨dst,.index T x ix,ty,pos,aft,gd⟩).run P w'=.ok (.value v) w':=by
 simp only[qx,ab]at bZ;obtain⟨⟨hx,hj⟩,jO⟩:=bZ;have hr:=bH hi hx;have yR:=bH hi hj;unfold isStr at jO
 split at jO
 ·rename_i hu;simp only[gG]at he
  split at he
  ·rename_i t n hb hn;rw[hb]at hr;rw[hn]at yR;obtain⟨rj,_⟩:=gQ yR;obtain⟨n6,_⟩:=zG hr
   split at he
   ·rename_i hc;simp only[aa]at he;subst he;refine⟨_,gj ?_,λw'=>Tp hu n6 rj (by omega) hc.2⟩;have:=pX t n.toNat;simp[IntKind.wrap,IntKind.bits,IntKind.signed];omega
   ·cases he
  ·cases he
 ·cases jO
theorem wI{n:Int}(h:IntKind.i64.wrap n=n):-9223372036854775808<=n/\n<=9223372036854775807:=by
 simp[IntKind.wrap,IntKind.bits,IntKind.signed]at h
 split at h<;>omega
theorem bJ{n:Int}(h:-9223372036854775808<=n/\n<=9223372036854775807):IntKind.i64.wrap n=n:=IntWalk.i64_in _ h
theorem wrap_wrap(k:IntKind)(n:Int):k.wrap (k.wrap n)=k.wrap n:=by
 cases k<;>simp only[IntKind.wrap,IntKind.bits,IntKind.signed]<;>(repeat' split)<;>simp_all<;>omega
theorem acI(hi:Inv γ h0 io w0 s f w){op:BinOp}{T T':TypeId}{x x':Operand}{y y':KX}{c:C}(bZ:qx P N (.binOp op T x x' T') (.bin op y y')=true)(he:gG s (.bin op y y')=some c) :
  ∃v,CR γ w c v/\∀w',(execOp (fr f N).eval ⟨dst,.binOp op T x x' T',ty,pos,aft,gd⟩).run P w'=.ok (.value v) w':=by
 simp only[qx,ab]at bZ;obtain⟨⟨_,hx⟩,hj⟩:=bZ;have hr:=bH hi hx;have yR:=bH hi hj;simp only[gG]at he;unfold M_ at he
 split at he
 ·rename_i k a k' b hb hn;rw[hb]at hr;rw[hn]at yR;obtain⟨n6,hxw⟩:=gQ hr;obtain⟨rj,hjw⟩:=gQ yR
  split at he
  ·rename_i hk;subst hk;simp only[ad]at he;obtain⟨d,hd,rfl⟩:=he;unfold Pw at hd
   split at hd
   all_goals (try (simp only[aa]at hd;subst hd))
   ·exact⟨_,gj (wrap_wrap _ _),λw'=>by simp[execOp,n6,rj,binOp,Op.intArith,eqGuard]⟩
   ·exact⟨_,gj (wrap_wrap _ _),λw'=>by simp[execOp,n6,rj,binOp,Op.intArith,eqGuard]⟩
   ·exact⟨_,gj (wrap_wrap _ _),λw'=>by simp[execOp,n6,rj,binOp,Op.intArith,eqGuard]⟩
   ·exact⟨_,gI,λw'=>IP n6 rj rfl⟩
   ·exact⟨_,gI,λw'=>agd n6 rj rfl⟩
   ·exact⟨_,gI,λw'=>agc n6 rj rfl⟩
   ·exact⟨_,gI,λw'=>agb n6 rj rfl⟩
   ·exact⟨_,gI,λw'=>aga n6 rj rfl⟩
   ·exact⟨_,gI,λw'=>age n6 rj (by simp)⟩
   ·split at hd
    ·rename_i hc;obtain⟨rfl,h1,h2⟩:=hc;simp only[aa]at hd;subst hd;have TL:=wI hxw;have hq:0<=a / b/\a / b<=a:=⟨Int.ediv_nonneg h1 (by omega),Int.ediv_le_self _ h1⟩
     have OY:¬b=0:=by omega
     have e:a.tdiv b=a / b:=Int.tdiv_eq_ediv_of_nonneg h1;have e2:IntKind.i64.wrap (a / b)=a / b:=bJ (by omega);exact⟨_,gj e2,λw'=>by simp[execOp,n6,rj,binOp,Op.intDiv,eqGuard,OY,e,e2]⟩
    ·split at hd
     ·rename_i hc;obtain⟨rfl,h1,h2⟩:=hc;simp only[aa]at hd;subst hd;have TL:=wI hxw;have hq:0<=-a / b/\-a / b<=-a:=⟨Int.ediv_nonneg (by omega) (by omega),Int.ediv_le_self _ (by omega)⟩
      have OY:¬b=0:=by omega
      have e:a.tdiv b=-(-a / b):=by
       have:=Int.neg_tdiv (-a) b;rw[qE]at this;rw[this,Int.tdiv_eq_ediv_of_nonneg (by omega)]
      have e2:IntKind.i64.wrap (-(-a / b))=-(-a / b):=bJ (by omega);exact⟨_,gj e2,λw'=>by simp[execOp,n6,rj,binOp,Op.intDiv,eqGuard,OY,e,e2]⟩
     ·cases hd
   ·split at hd
    ·rename_i hc;obtain⟨rfl,h1,h2⟩:=hc;simp only[aa]at hd;subst hd;have TL:=wI hxw;have hq:0<=a % b/\a % b < b:=⟨Int.emod_nonneg _ (by omega),Int.emod_lt_of_pos _ (by omega)⟩
     have hbj:=wI hjw;have OY:¬b=0:=by omega
     have e:a.tmod b=a % b:=Int.tmod_eq_emod_of_nonneg h1;have e2:IntKind.i64.wrap (a % b)=a % b:=bJ (by omega);exact⟨_,gj e2,λw'=>by simp[execOp,n6,rj,binOp,Op.intDiv,eqGuard,OY,e]⟩
    ·split at hd
     ·rename_i hc;obtain⟨rfl,h1,h2⟩:=hc;simp only[aa]at hd;subst hd;have hq:0<=-a % b/\-a % b < b:=⟨Int.emod_nonneg _ (by omega),Int.emod_lt_of_pos _ (by omega)⟩
      have hbj:=wI hjw;have OY:¬b=0:=by omega
      have e:a.tmod b=-(-a % b):=by
       have:=Int.neg_tmod (-a) b;rw[qE]at this;rw[this,Int.tmod_eq_emod_of_nonneg (by omega)]
      have e2:IntKind.i64.wrap (-(-a % b))=-(-a % b):=bJ (by omega);exact⟨_,gj e2,λw'=>by simp[execOp,n6,rj,binOp,Op.intDiv,eqGuard,OY,e]⟩
     ·cases hd
   ·cases hd
  ·cases he
 ·rename_i a b hb hn;rw[hb]at hr;rw[hn]at yR;obtain⟨n6,hxw⟩:=zG hr;obtain⟨rj,hjw⟩:=zG yR;simp only[ad]at he;obtain⟨d,hd,rfl⟩:=he;unfold Px at hd
  split at hd
  ·split at hd
   ·rename_i hc;simp only[aa]at hd;subst hd;have OY:¬(((a.size+b.size:Nat):Int) > IntKind.i64.max):=by simp[IntKind.max,IntKind.signed,IntKind.bits];simp[maxLen]at hc;omega
    refine⟨_,xo (by simpa using hc),λw'=>?_⟩;simp only[execOp,n6,rj,binOp,Op.stringOp,eqGuard,if_neg OY];simp
   ·cases hd
  ·simp only[aa]at hd;subst hd;exact⟨_,gI,λw'=>aae n6 rj rfl⟩
  ·simp only[aa]at hd;subst hd;exact⟨_,gI,λw'=>aag n6 rj (by simp)⟩
  ·simp only[aa]at hd;subst hd;exact⟨_,gI,λw'=>by simp[execOp,n6,rj,binOp,Op.stringOp,eqGuard,nT]⟩
  ·simp only[aa]at hd;subst hd;exact⟨_,gI,λw'=>by simp[execOp,n6,rj,binOp,Op.stringOp,eqGuard,nT,mb]⟩
  ·simp only[aa]at hd;subst hd;exact⟨_,gI,λw'=>by simp[execOp,n6,rj,binOp,Op.stringOp,eqGuard,nT,mb]⟩
  ·simp only[aa]at hd;subst hd;exact⟨_,gI,λw'=>by simp[execOp,n6,rj,binOp,Op.stringOp,eqGuard,nT]⟩
  ·cases hd
 ·cases he
theorem acH(hi:Inv γ h0 io w0 s f w){op:BinOp}{T T':TypeId}{x x':Operand}{y y':KX}{c:C}(bZ:qx P N (.binOp op T x x' T') (.uG op y y')=true)(he:gG s (.uG op y y')=some c) :
  ∃v,CR γ w c v/\∀w',(execOp (fr f N).eval ⟨dst,.binOp op T x x' T',ty,pos,aft,gd⟩).run P w'=.ok (.value v) w':=by
 simp only[qx,ab]at bZ;obtain⟨⟨⟨_,hx⟩,hj⟩,jO⟩:=bZ;have hr:=bH hi hx;have yR:=bH hi hj;unfold isBool at jO
 split at jO
 ·rename_i hT;simp only[gG]at he
  split at he
  ·rename_i a b hb hn;rw[hb]at hr;rw[hn]at yR;have n6:=ot hr;have rj:=ot yR;simp only[ad]at he;obtain⟨d,hd,rfl⟩:=he;unfold Pv at hd
   split at hd
   ·simp only[aa]at hd;subst hd;exact⟨_,gI,λw'=>aac hT n6 rj rfl⟩
   ·simp only[aa]at hd;subst hd;exact⟨_,gI,λw'=>aad hT n6 rj (by simp)⟩
   ·cases hd
  ·cases he
 ·cases jO
theorem CF{w:World}:∀(es:List (List D)) {xs:List Value} {G:Fp} {ns:List Int},eH w es xs G->bytesOf es=some ns->xs=ns.map (Value.int .u8)/\ns.length=es.length
 |[],xs,G,ns,h,hb=>by
  simp only[eH]at h;simp only[bytesOf,aa]at hb;subst hb;simp[h.1]
 |e::es,xs,G,ns,h,hb=>by
  simp only[eH]at h;obtain⟨v1,v2,F1,F2,rfl,rfl,h1,h2⟩:=h;unfold bytesOf at hb
  split at hb
  ·rename_i e0;cases e0
  ·rename_i n ja heq;simp only[bw]at heq;obtain⟨rfl,rfl⟩:=heq;simp only[ad]at hb;obtain⟨ms,hm,rfl⟩:=hb;obtain⟨k1,k2⟩:=CF es h2 hm;simp only[eb,Rp]at h1;obtain⟨v,dZ,G1,G2,rfl,_,⟨rfl,_⟩,rfl,_⟩:=h1;simp[k1,k2]
  ·cases hb
theorem acJ(hi:Inv γ h0 io w0 s f w){T T':TypeId}{x:Operand}{y:KX}{c:C}(bZ:qx P N (.convert T T' x) (.yk y)=true)(he:gG s (.yk y)=some c) :
  ∃v,CR γ w c v/\∀w',od γ s w w'->(execOp (fr f N).eval ⟨dst,.convert T T' x,ty,pos,aft,gd⟩).run P w'=.ok (.value v) w':=by
 simp only[qx,ab]at bZ;obtain⟨⟨hx,hT'⟩,hT⟩:=bZ;have hr:=bH hi hx;simp only[gG]at he
 split at he
 ·rename_i r hb;rw[hb]at hr;simp only[CR]at hr
  split at he
  ·rename_i row hl
   split at he
   ·rename_i hc;simp only[ad]at he;obtain⟨ns,hns,rfl⟩:=he;obtain⟨F,hR,_,qM⟩:=hi.rw r row hl;obtain⟨A,n,cc,q1,q2,q3,q4,q5,q6,q7,q8⟩:=hR;rcases q8 with ⟨a1,hc0,_⟩|⟨g,o,xs,G,a1,a2,a3,a4,a5,a6,a7,a8,a9,sL⟩
    ·have vT:row.es=[]:=cm.1 (by omega);rw[vT]at hns;simp only[bytesOf,aa]at hns;subst hns;subst a1;refine⟨.string ByteArray.empty,xo (qH _),λw' hs=>?_⟩;unfold isStr at hT'
     split at hT'
     ·rename_i Yk;unfold Yu at hT
      split at hT
      ·rename_i E hu
       split at hT
       ·rename_i hE;have h:=run_convert_bytes_nil (P:=P) w' T E hu hE n cc T' Yk;have hv:=hr.1.trans q1;simp only[execOp,hv,h,Sem.run_bind,Result.andThen_ok];rfl
       ·cases hT
      ·cases hT
     ·cases hT'
    ·have hg:g∈F:=by
      cases hd:row.deep with
      |true=>rw[(a9 hd).1];simp
      |false=>rw[(sL hd).1];simp
     obtain⟨k1,k2⟩:=CF _ a4 hns;subst a1;refine⟨_,xo ?_,λw' hs=>?_⟩
     ·show (strOfNums ns).size<=maxLen;rw[strOfNums_size];omega
     ·have pE:gy w' g o xs:=a5.cH (hs.rw r row hl g (qM g hg));unfold isStr at hT'
      split at hT'
      ·rename_i Yk;unfold Yu at hT
       split at hT
       ·rename_i E hu
        split at hT
        ·rename_i hE;have h:=run_convert_bytes_arg (P:=P) w' T E hu hE g o n cc ns (by omega) (λi oU=>by
          have TM:i < ns.length:=by omega
          have:=pE i (.int .u8 ns[i]) (by rw[k1];simp[TM]);rw[this];simp[TM]) T' Yk
         have hv:=hr.1.trans q1;simp only[execOp,hv,h,Sem.run_bind,Result.andThen_ok];rfl
        ·cases hT
       ·cases hT
      ·cases hT'
   ·cases he
  ·cases he
 ·cases he
theorem acN(hi:Inv γ h0 io w0 s f w){T:TypeId}{x ix:Operand}{y j:KX}{c:C}(bZ:qx P N (.slice T x none (some ix) none) (.slc y j)=true)(he:gG s (.slc y j)=some c) :
  ∃v,CR γ w c v/\∀w',(execOp (fr f N).eval ⟨dst,.slice T x none (some ix) none,ty,pos,aft,gd⟩).run P w'=.ok (.value v) w':=by
 simp only[qx,ab]at bZ;obtain⟨⟨⟨hx,hj⟩,_⟩,hz⟩:=bZ;have hr:=bH hi hx;have yR:=bH hi hj;obtain⟨z,hz⟩:=bF.1 hz;unfold FT at hz
 split at hz
 ·rename_i E hu;simp only[gG]at he
  split at he
  ·rename_i k fl es a hb hn;rw[hb]at hr;rw[hn]at yR;obtain⟨rj,_⟩:=gQ yR
   split at he
   ·rename_i hc;simp only[aa]at he;subst he;simp only[CR,Rp]at hr;obtain⟨F,⟨A,n,cc,q1,q2,q3,q4,q5,q6,q7,q8⟩,jV⟩:=hr;have ig:(es.take a.toNat).length=a.toNat:=by rw[a_];omega
    refine⟨.slice A a.toNat cc,?_,λw'=>K0 hu (λw=>run_sizeOf hz w) q1 rj (by omega) (by omega)⟩;by_cases h0:a.toNat=0
    ·simp only[CR,Rp];exact⟨[],⟨A,a.toNat,cc,rfl,ig.symm,by omega,q4,λhf e he=>q5 hf e (bN he),q6,λe he=>q7 e (bN he),.inl ⟨h0,rfl⟩⟩,λ_ h=>by simp at h⟩
    ·rcases q8 with q8|⟨hp,b,o,xs,G,p1,p2,p3,p4⟩
     ·omega
     ·rw[<- bc a.toNat es]at p3;obtain⟨v1,v2,F1,F2,rfl,rfl,k1,k2⟩:=eH.fy _ p3;have I2:=eH.length _ k1 (λe he=>q7 e (bN he));rw[ig]at I2;simp only[CR,Rp];refine⟨(b,o+a.toNat * k)::F1,⟨A,a.toNat,cc,rfl,ig.symm,by omega,q4,λhf e he=>q5 hf e (bN he),q6,λe he=>q7 e (bN he),.inr ⟨by omega,b,o,v1,F1,p1,rfl,k1,?_⟩⟩,?_⟩
      ·intro j u hu;exact p4 j u (by rw[cl (aI.1 hu).1];exact hu)
      ·intro be nZ;rcases ay.1 nZ with rfl|nZ
       ·have:=jV (b,o+n * k) (by rw[p2];simp);refine aA ?_ this;have:a.toNat * k<=n * k:=ew k (by omega);show o+a.toNat * k<=o+n * k;omega
       ·exact jV be (by rw[p2];simp[nZ])
   ·cases he
  ·cases he
 ·cases hz
theorem acO(hi:Inv γ h0 io w0 s f w){T:TypeId}{x:Operand}{lo oU:Option Operand}{y:KX}{a b:Option KX}{c:C}(bZ:qx P N (.slice T x lo oU none) (.I_ y a b)=true)(he:gG s (.I_ y a b)=some c) :
  ∃v,CR γ w c v/\∀w',(execOp (fr f N).eval ⟨dst,.slice T x lo oU none,ty,pos,aft,gd⟩).run P w'=.ok (.value v) w':=by
 simp only[qx,ab]at bZ;obtain⟨⟨⟨hx,hl⟩,hh⟩,jO⟩:=bZ;have hr:=bH hi hx;unfold isStr at jO
 split at jO
 ·rename_i hu;simp only[gG]at he
  split at he
  ·rename_i t hb;rw[hb]at hr;obtain⟨n6,HG⟩:=zG hr
   split at he
   ·rename_i l u pE Yk
    split at he
    ·rename_i hc;simp only[aa]at he;subst he;refine⟨_,xo ?_,λw'=>Tq hu n6 (my hi hl pE) (my hi hh Yk) hc.1 hc.2⟩;rw[ByteArray.size_extract];omega
    ·cases he
   ·cases he
  ·cases he
 ·cases jO
theorem acM(hi:Inv γ h0 io w0 s f w){T:TypeId}{x:Operand}{lo oU:Option Operand}{y:KX}{a b:Option KX}{k:Nat}{c:C}(bZ:qx P N (.slice T x lo oU none) (.yc k y a b)=true)(he:gG s (.yc k y a b)=some c) :
  ∃v,CR γ w c v/\∀w',(execOp (fr f N).eval ⟨dst,.slice T x lo oU none,ty,pos,aft,gd⟩).run P w'=.ok (.value v) w':=by
 simp only[qx,ab]at bZ;obtain⟨⟨⟨hx,I3⟩,Wv⟩,hz⟩:=bZ;have hr:=bH hi hx;have hz:=eq_of_beq hz;unfold FT at hz
 split at hz
 ·rename_i E hu;simp only[gG]at he
  split at he
  ·rename_i k1 fl es hb;rw[hb]at hr
   split at he
   ·rename_i l u pE Yk
    split at he
    ·rename_i hc;obtain⟨rfl,c1,c2⟩:=hc;simp only[aa]at he;subst he;simp only[CR,Rp]at hr;obtain⟨F,⟨A,n,cc,q1,q2,q3,q4,q5,q6,q7,q8⟩,jV⟩:=hr;have hlen:((es.take u).drop l).length=u - l:=by simp;omega
     have tu:∀e∈(es.take u).drop l,e∈es:=λe he=>bN (iB he);have hbu:IX (fr f N).eval oU n u:=by rw[q2];exact my hi Wv Yk
     have lQ:=λw'=>BU (w:=w') (dst:=dst) (ty:=ty) (pos:=pos) (aft:=aft) (gd:=gd) hu (λw=>run_sizeOf hz w) q1 (my hi I3 pE) hbu c1 (by omega);refine⟨_,?_,lQ⟩;by_cases h0:u - l=0
     ·simp only[CR,Rp];exact⟨[],⟨_,u - l,cc - l,rfl,hlen.symm,by omega,by omega,λhf e he=>q5 hf e (tu e he),q6,λe he=>q7 e (tu e he),.inl ⟨h0,rfl⟩⟩,λ_ h=>by simp at h⟩
     ·rcases q8 with q8|⟨hp,b,o,xs,G,p1,p2,p3,p4⟩
      ·omega
      ·have ri:¬cc=l:=by omega
       rw[<- bc u es]at p3;obtain⟨v1,v2,F1,F2,rfl,rfl,m0,_⟩:=eH.fy _ p3;rw[<- bc l (es.take u)]at m0;obtain⟨u1,u2,G1,G2,rfl,rfl,m1,m2⟩:=eH.fy _ m0;have I2:=eH.length _ m1 (λe he=>q7 e (bN (bN he)));have Q1:((es.take u).take l).length=l:=by simp;omega
       rw[Q1]at I2;rw[if_neg ri,p1];simp only[CR,Rp];refine⟨(b,o+l * k1+(u - l) * k1)::G2,⟨some ⟨b,o+l * k1,none⟩,u - l,cc - l,by simp[Addr.add],hlen.symm,by omega,by omega,λhf e he=>q5 hf e (tu e he),q6,λe he=>q7 e (tu e he),.inr ⟨by omega,b,o+l * k1,u2,G2,rfl,rfl,m2,?_⟩⟩,?_⟩
       ·intro j v hj;have e1:((u1++u2)++v2)[u1.length+j]?=some v:=by
         rw[bh,cr (by omega),lJ,cl (aI.1 hj).1];exact hj
        have e2:=p4 _ _ e1;rw[I2,<- du]at e2;exact e2
       ·intro be nZ;rcases ay.1 nZ with rfl|nZ
        ·have h9:=jV (b,o+n * k1) (by rw[p2];simp);refine aA ?_ h9;have h8:l * k1+(u - l) * k1=u * k1:=by rw[<- uK];congr 1;omega
         have h7:u * k1<=n * k1:=ew k1 (by omega);show o+l * k1+(u - l) * k1<=o+n * k1;omega
        ·exact jV be (by rw[p2];simp[nZ])
    ·cases he
   ·cases he
  ·cases he
 ·cases hz
theorem lU(hi:Inv γ h0 io w0 s f w){op:Op}{nC:KO}{c:C}(bZ:qx P N op nC=true)(he:gG s nC=some c) :
  ∃v,CR γ w c v/\∀w',(nC.JX=true->od γ s w w')->(execOp (fr f N).eval ⟨dst,op,ty,pos,aft,gd⟩).run P w'=.ok (.value v) w':=by
 have rT:=bZ;unfold qx at bZ
 split at bZ
 ·simp only[gG,aa]at he;subst he;exact⟨_,bH hi bZ,λw' _=>fP rfl⟩
 ·simp only[gG,aa]at he;subst he;exact⟨_,bH hi bZ,λw' _=>hZ rfl⟩
 ·simp only[ab]at bZ;obtain⟨⟨h1,h2⟩,h3⟩:=bZ;simp only[gG]at he
  split at he
  ·rename_i b hb;have hr:=bH hi h1;rw[hb]at hr;have hv:=ot hr;simp only[aa]at he;subst he;cases b
   ·exact⟨_,bH hi h3,λw' _=>IQ hv rfl⟩
   ·exact⟨_,bH hi h2,λw' _=>IS hv rfl⟩
  ·cases he
 ·obtain⟨v,h1,h2⟩:=Vn (dst:=dst) (ty:=ty) (pos:=pos) (aft:=aft) (gd:=gd) hi rT he;exact⟨v,h1,λw' _=>h2 w'⟩
 ·obtain⟨v,h1,h2⟩:=YT (dst:=dst) (ty:=ty) (pos:=pos) (aft:=aft) (gd:=gd) hi rT he;exact⟨v,h1,λw' hs=>h2 w' (hs rfl)⟩
 ·obtain⟨v,h1,h2⟩:=ahp (dst:=dst) (ty:=ty) (pos:=pos) (aft:=aft) (gd:=gd) hi rT he;exact⟨v,h1,λw' _=>h2 w'⟩
 ·obtain⟨v,h1,h2⟩:=ahq (dst:=dst) (ty:=ty) (pos:=pos) (aft:=aft) (gd:=gd) hi rT he;exact⟨v,h1,λw' _=>h2 w'⟩
 ·obtain⟨v,h1,h2⟩:=acP (dst:=dst) (ty:=ty) (pos:=pos) (aft:=aft) (gd:=gd) hi rT he;exact⟨v,h1,λw' _=>h2 w'⟩
 ·obtain⟨v,h1,h2⟩:=acK (dst:=dst) (ty:=ty) (pos:=pos) (aft:=aft) (gd:=gd) hi rT he;exact⟨v,h1,λw' _=>h2 w'⟩
 ·obtain⟨v,h1,h2⟩:=acL (dst:=dst) (ty:=ty) (pos:=pos) (aft:=aft) (gd:=gd) hi rT he;exact⟨v,h1,λw' _=>h2 w'⟩
 ·simp only[ab]at bZ;have e:=of_decide_eq_true bZ.1.1;subst e;obtain⟨v,h1,h2⟩:=acI (dst:=dst) (ty:=ty) (pos:=pos) (aft:=aft) (gd:=gd) hi rT he;exact⟨v,h1,λw' _=>h2 w'⟩
 ·simp only[ab]at bZ;have e:=of_decide_eq_true bZ.1.1.1;subst e;obtain⟨v,h1,h2⟩:=acH (dst:=dst) (ty:=ty) (pos:=pos) (aft:=aft) (gd:=gd) hi rT he;exact⟨v,h1,λw' _=>h2 w'⟩
 ·simp only[gG]at he
  split at he
  ·rename_i b hb;have hr:=bH hi bZ;rw[hb]at hr;have hv:=ot hr;simp only[aa]at he;subst he;exact⟨_,gI,λw' _=>Xb hv⟩
  ·cases he
 ·simp only[gG]at he
  split at he
  ·rename_i k a hb;have hr:=bH hi bZ;rw[hb]at hr;obtain⟨hv,_⟩:=gQ hr;simp only[aa]at he;subst he;exact⟨_,gj (wrap_wrap _ _),λw' _=>by simp[execOp,hv,Op.unary,Op.intArith]⟩
  ·cases he
 ·simp only[ab,beq_iff_eq]at bZ;obtain⟨⟨h1,h2⟩,h3⟩:=bZ;simp only[gG]at he
  split at he
  ·rename_i k a hb;have hr:=bH hi h1;rw[hb]at hr;obtain⟨hv,_⟩:=gQ hr;simp only[aa]at he;subst he;refine⟨_,gj (wrap_wrap _ _),λw' _=>?_⟩;unfold UL at h2 h3
   split at h3
   ·rename_i k' gf;simp only[aa]at h3;subst h3
    split at h2
    ·rename_i k2 hk2;simp[execOp,convert,hv,run_underlying gf,run_underlying hk2,Conv.intToInt]
    ·cases h2
   ·cases h3
  ·cases he
 ·rename_i c0 y
  split at bZ
  ·rename_i x T km nO Ci;simp only[ab]at bZ;obtain⟨h1,h2⟩:=bZ;obtain⟨TJ,args,Jh⟩:=c0;simp only at km nO Ci
   subst km;have ea:args=#[x]:=by rw[<- nO]
   have et:Jh=#[T]:=by rw[<- Ci]
   subst ea et;have hr:=bH hi h1;unfold HI at h2
   split at h2
   ·rename_i E hu;have wr:∀n:Nat,n<=maxLen->IntKind.i64.wrap (n:Int)=n:=λn hn=>bJ (by simp[maxLen]at hn;omega);simp only[gG]at he
    split at he
    ·rename_i k fl es hb;rw[hb]at hr;simp only[CR,Rp]at hr;obtain⟨F,⟨A,m,cc,q1,q2,q3,q4,_⟩,jV⟩:=hr;simp only[aa]at he;subst he;subst q2;exact⟨_,gj (wr _ (by omega)),λw' _=>DT hu q1⟩
    ·rename_i k fl hb;rw[hb]at hr;simp only[CR]at hr;simp only[aa]at he;subst he;exact⟨_,gj (wr 0 (by omega)),λw' _=>DT hu hr.1⟩
    ·rename_i r hb;rw[hb]at hr;simp only[CR]at hr
     split at he
     ·rename_i row hl;simp only[aa]at he;subst he;obtain⟨F,hR,_,qM⟩:=hi.rw r row hl;obtain⟨A,n',c',q1,q2,q3,q4,_⟩:=hR;subst q2;exact⟨_,gj (wr _ (by omega)),λw' _=>DT hu (hr.1.trans q1)⟩
     ·cases he
    ·cases he
   ·cases h2
  ·cases bZ
 ·rename_i c0 y
  split at bZ
  ·rename_i x T km nO Ci;simp only[ab]at bZ;obtain⟨h1,h2⟩:=bZ;obtain⟨TJ,args,Jh⟩:=c0;simp only at km nO Ci
   subst km;have ea:args=#[x]:=by rw[<- nO]
   have et:Jh=#[T]:=by rw[<- Ci]
   subst ea et;have hr:=bH hi h1;unfold isStr at h2
   split at h2
   ·rename_i hu;simp only[gG]at he
    split at he
    ·rename_i t hb;rw[hb]at hr;obtain⟨hv,hl⟩:=zG hr;simp only[aa]at he;subst he;exact⟨_,gj (bJ (by simp[maxLen]at hl;omega)),λw' _=>aaf hu hv⟩
    ·cases he
   ·cases h2
  ·cases bZ
 ·rename_i c0 y y'
  split at bZ
  ·rename_i x x' km nO;simp only[ab]at bZ;obtain⟨TJ,args,Jh⟩:=c0;simp only at km nO
   subst km;have ea:args=#[x,x']:=by rw[<- nO]
   subst ea;have hr:=bH hi bZ.1;have yQ:=bH hi bZ.2;simp only[gG]at he
   split at he
   ·rename_i a b hb kT;rw[hb]at hr;rw[kT]at yQ;obtain⟨hv,hw⟩:=gQ hr;obtain⟨O1,hw'⟩:=gQ yQ;simp only[aa]at he;subst he;exact⟨_,gj (by split<;>assumption),λw' _=>by simp[execOp,resolve,invoke,builtin,Builtin.min_,Builtin.min2,hv,O1]⟩
   ·cases he
  ·cases bZ
 ·rename_i c0 y y'
  split at bZ
  ·rename_i x x' km nO;simp only[ab]at bZ;obtain⟨TJ,args,Jh⟩:=c0;simp only at km nO
   subst km;have ea:args=#[x,x']:=by rw[<- nO]
   subst ea;have hr:=bH hi bZ.1;have yQ:=bH hi bZ.2;simp only[gG]at he
   split at he
   ·rename_i a b hb kT;rw[hb]at hr;rw[kT]at yQ;obtain⟨hv,hw⟩:=gQ hr;obtain⟨O1,hw'⟩:=gQ yQ;simp only[aa]at he;subst he;exact⟨_,gj (by split<;>assumption),λw' _=>by simp[execOp,resolve,invoke,builtin,Builtin.max_,Builtin.max2,hv,O1]⟩
   ·cases he
  ·cases bZ
 ·simp only[ab,beq_iff_eq]at bZ;obtain⟨h1,rfl⟩:=bZ;have hr:=bH hi h1;simp only[gG]at he
  split at he
  ·rename_i cs hb;rw[hb]at hr;simp only[CR]at hr;obtain⟨vs,h2,h3⟩:=hr;rw[cU]at he;obtain⟨v,hv,hc⟩:=h3.at_ he;exact⟨v,hc,λw' _=>OQ h2 (by simpa using hv)⟩
  ·cases he
 ·obtain⟨v,h1,h2⟩:=acN (dst:=dst) (ty:=ty) (pos:=pos) (aft:=aft) (gd:=gd) hi rT he;exact⟨v,h1,λw' _=>h2 w'⟩
 ·obtain⟨v,h1,h2⟩:=acO (dst:=dst) (ty:=ty) (pos:=pos) (aft:=aft) (gd:=gd) hi rT he;exact⟨v,h1,λw' _=>h2 w'⟩
 ·obtain⟨v,h1,h2⟩:=acM (dst:=dst) (ty:=ty) (pos:=pos) (aft:=aft) (gd:=gd) hi rT he;exact⟨v,h1,λw' _=>h2 w'⟩
 ·have hr:=bH hi bZ;simp only[gG]at he
  split at he
  ·rename_i b o hb;simp only[aa]at he;subst he;rw[hb]at hr;refine⟨_,hr,λw' _=>?_⟩;simp only[CR]at hr;simp[execOp,hr]
  ·rename_i cs hb;simp only[aa]at he;subst he;rw[hb]at hr;refine⟨_,hr,λw' _=>?_⟩;simp only[CR]at hr;obtain⟨b,o,vs,F,hr,_⟩:=hr;simp[execOp,hr]
  ·rename_i r k i o hb;simp only[aa]at he;subst he;rw[hb]at hr;refine⟨_,hr,λw' _=>?_⟩;simp only[CR]at hr;obtain⟨g,p,n,c,_,hr⟩:=hr;simp[execOp,hr]
  ·cases he
 ·obtain⟨v,h1,h2⟩:=acJ (dst:=dst) (ty:=ty) (pos:=pos) (aft:=aft) (gd:=gd) hi rT he;exact⟨v,h1,λw' hs=>h2 w' (hs rfl)⟩
 ·cases bZ
end
end
section
open Go.RowKit
inductive FOk:Option Nat->Fm->Fm->Prop where
 |skip {f:Fm}:FOk none f f
 |put {d:Nat} {f:Fm} {v:Value}:FOk (some d) f (yi f d v)
structure Tr (d:Option Nat) (X:List Nat) (γ:Gh) (w:World) (γ':Gh) (w':World) (f f':Fm):Prop where
 M7:sJ γ (λo=>∃i∈X,o=.box i\/o=.row i) w w'
 β:∀b,d≠some b->γ'.β b=γ.β b
 h:∀g,γ.h g<=γ'.h g
 fr:FOk d f f'
theorem sJ.refl(γ:Gh)(M:Own->Prop)(w:World):sJ γ M w w:=⟨rfl,rfl,rfl,aj _,λ_ _ _=>rfl,λ_ _ _=>rfl,λ_ h=>h⟩
section
variable {γ:Gh} {h0:Nat->Nat} {io:List Nat} {w0:World} {s:St} {f:Fm} {w:World}
theorem jS(hi:Inv γ h0 io w0 s f w){w1:World}(hk:DX w.heap.size w w1)(M:Own->Prop):sJ γ M w w1 where
 os:=hk.os
 tape:=hk.tape
 output:=hk.output
 size:=hk.size
 block g hg _:=hk.block g hg
 cell g j hj:=by
  rcases cY g w.heap.size with hl|hl
  ·exact World.cell?_of_block (w:=w) (hk.block g hl)
  ·have:=hi.eN g hl;omega
 eX g hg:=⟨bp hg.1 hk.size,λj=>by rw[World.frozen?_of_block (w:=w) (hk.block g hg.1)];exact hg.2 j⟩
theorem Inv.Gj(hi:Inv γ h0 io w0 s f w){w1:World}(hk:DX w.heap.size w w1):Inv γ h0 io w0 s f w1:=
 hi.M7 (jS hi hk (λ_=>False)) (λh=>h) (λ_ h=>h.elim) (λ_ h=>h.elim)
theorem Inv.qD(hi:Inv γ h0 io w0 s f w){g:Nat}(hg:w.heap.size<=g):γ.ω g=.free:=by
 rcases gp (γ.ω g=.free) with h|h
 ·exact h
 ·have:=(hi.own g h).1;omega
theorem Inv.Jf(hi:Inv γ h0 io w0 s f w){b g:Nat}{T:TypeId}{vs:List Value}{cs:List C}(hB:kW w g T vs)(Hx:γ.ω g=.free\/γ.ω g=.db)(hg:w0.heap.size<=g\/g∈io)(hh:γ.h g=0)(hc:dR γ w cs vs) :
  ∃γ',Inv γ' h0 io w0 (s.jK b (C.jf b cs)) f w/\γ'.β b=g/\(∀x,x≠b->γ'.β x=γ.β x)/\γ'.h=γ.h/\γ'.sl=γ.sl/\∀y,y≠g->γ'.ω y=γ.ω y:=by
 refine⟨{γ with β:=λx=>if x=b then g else γ.β x,ω:=λx=>if x=g then .box b else γ.ω x },?_,by simp,λx hx=>by simp[hx],rfl,rfl,λy hy=>by simp[hy]⟩;have mv:∀(c:C) {v:Value},CR γ w c v->CR {γ with β:=λx=>if x=b then g else γ.β x,ω:=λx=>if x=g then .box b else γ.ω x } w (C.kill b c) v:=λc v h=>
  by refine CR.move (γ:=γ) b ?_ ?_ ?_ ?_ c h<;>intros<;>first|exact aj _|rfl|simp_all
 have mvs:∀(c:List C) {v:List Value},dR γ w c v->dR {γ with β:=λx=>if x=b then g else γ.β x,ω:=λx=>if x=g then .box b else γ.ω x } w (C.jf b c) v:=λc v h=>
  by refine dR.move (γ:=γ) b ?_ ?_ ?_ ?_ c h<;>intros<;>first|exact aj _|rfl|simp_all
 exact {
  sl:=λd c hl=>by
   simp[St.jK,St.eO,St.kill,uo]at hl;obtain⟨c0,h1,rfl⟩:=hl;exact mv c0 (hi.sl d c0 h1)
  bx:=λd c hl=>by
   simp[St.jK,St.eO,St.kill,look,dN,um]at hl;by_cases hd:b=d
   ·subst hd;simp[if_true,aa]at hl;subst hl;exact⟨T,vs,by simpa using hB,mvs cs hc,by simp⟩
   ·simp[if_neg hd]at hl;obtain⟨c0,h1,rfl⟩:=hl;obtain⟨T',dZ,h2,h3,h4⟩:=hi.bx d c0 h1;have iQ:γ.β d≠g:=λe=>by rcases Hx with h|h<;>rw[e,h]at h4<;>cases h4
    exact⟨T',dZ,by simpa [kD hd] using h2,mvs c0 h3,by simp[kD hd,iQ,h4]⟩
  rw:=λr x hl=>by
   obtain⟨F,h1,h2,h3⟩:=hi.rw r x hl;refine⟨F,h1,h2,λy hy=>?_⟩;have iQ:y≠g:=λe=>by have:=h3 y hy;rcases Hx with h|h<;>rw[e,h]at this<;>cases this
   simp[iQ,h3 y hy]
  own:=λy hy=>by
   by_cases he:y=g
   ·subst he;exact⟨hB.lt,hg⟩
   ·simp[if_neg he]at hy;exact hi.own y hy
  lI:=λy x hy=>by
   by_cases he:y=g
   ·subst he;exact hh
   ·simp[if_neg he]at hy;exact hi.lI y x hy
  eN:=hi.eN,os:=hi.os,tape:=hi.tape,output:=hi.output,size:=hi.size,frame:=hi.frame,cell:=hi.cell,mono:=hi.mono,hold:=hi.hold,eX:=hi.eX }
theorem Inv.ry(hi:Inv γ h0 io w0 s f w){r:Nat}{x:Row}{v:Value}{F:List Nat}(hR:nh γ.h w x v F)(jm:F.Nodup)(hF:∀g∈F,(γ.ω g=.free\/γ.ω g=.db\/γ.ω g=.row r)/\g < w.heap.size/\(w0.heap.size<=g\/g∈io)) :
  ∃γ',Inv γ' h0 io w0 (s.newRow r x) f w/\γ'.sl r=v/\γ'.β=γ.β/\γ'.h=γ.h/\(∀g,g∉F->γ'.ω g=γ.ω g)/\∀q,q≠r->γ'.sl q=γ.sl q:=by
 refine⟨{γ with sl:=λq=>if q=r then v else γ.sl q,ω:=λy=>if y∈F then .row r else γ.ω y },?_,by simp,rfl,rfl,λg hg=>by simp[hg],λq hq=>by simp[hq]⟩;have mv:∀(c:C) {v':Value},CR γ w c v'->CR {γ with sl:=λq=>if q=r then v else γ.sl q,ω:=λy=>if y∈F then .row r else γ.ω y } w (C.kill r c) v':=λc v' h=>
  by refine CR.move (γ:=γ) r ?_ ?_ ?_ ?_ c h<;>intros<;>first|exact aj _|rfl|simp_all
 have mvs:∀(c:List C) {v':List Value},dR γ w c v'->dR {γ with sl:=λq=>if q=r then v else γ.sl q,ω:=λy=>if y∈F then .row r else γ.ω y } w (C.jf r c) v':=λc v' h=>
  by refine dR.move (γ:=γ) r ?_ ?_ ?_ ?_ c h<;>intros<;>first|exact aj _|rfl|simp_all
 exact {
  sl:=λd c hl=>by
   simp[St.newRow,St.setRow,St.kill,uo]at hl;obtain⟨c0,h1,rfl⟩:=hl;exact mv c0 (hi.sl d c0 h1)
  bx:=λd c hl=>by
   simp[St.newRow,St.setRow,St.kill,um]at hl;obtain⟨c0,h1,rfl⟩:=hl;obtain⟨T',dZ,h2,h3,h4⟩:=hi.bx d c0 h1;refine⟨T',dZ,h2,mvs c0 h3,?_⟩;have iQ:γ.β d∉F:=λe=>by
    grind
   simp[iQ,h4]
  rw:=λq y hl=>by
   simp[St.newRow,St.setRow,St.kill,look,dN]at hl;by_cases hd:r=q
   ·subst hd;simp[if_true,aa]at hl;subst hl;exact⟨F,by simpa using hR,jm,λg hg=>by simp[hg]⟩
   ·simp[if_neg hd]at hl;obtain⟨F',h1,h2,h3⟩:=hi.rw q y hl;refine⟨F',by simpa [kD hd] using h1,h2,λg hg=>?_⟩;have iQ:g∉F:=λe=>by
     grind
    simp[iQ,h3 g hg]
  own:=λy hy=>by
   by_cases he:y∈F
   ·exact (hF y he).2
   ·simp[if_neg he]at hy;exact hi.own y hy
  lI:=λy x hy=>by
   by_cases he:y∈F
   ·simp_all
   ·simp[if_neg he]at hy;exact hi.lI y x hy
  eN:=hi.eN,os:=hi.os,tape:=hi.tape,output:=hi.output,size:=hi.size,frame:=hi.frame,cell:=hi.cell,mono:=hi.mono,hold:=hi.hold,eX:=hi.eX }
theorem Inv.setRow(hi:Inv γ h0 io w0 s f w){r:Nat}{x:Row}{F:List Nat}(hR:nh γ.h w x (γ.sl r) F)(jm:F.Nodup)(hF:∀g∈F,(γ.ω g=.free\/γ.ω g=.db\/γ.ω g=.row r)/\g < w.heap.size/\(w0.heap.size<=g\/g∈io)) :
  ∃γ',Inv γ' h0 io w0 (s.setRow r x) f w/\γ'.sl=γ.sl/\γ'.β=γ.β/\γ'.h=γ.h/\∀g,γ'.ω g=γ.ω g\/γ'.ω g=.row r:=by
 refine⟨{γ with ω:=λy=>if y∈F then .row r else γ.ω y },?_,rfl,rfl,rfl,λg=>by dsimp only;split<;>simp⟩;have mv:∀(c:C) {v':Value},CR γ w c v'->CR {γ with ω:=λy=>if y∈F then .row r else γ.ω y } w c v':=λc v' h=>
  by refine CR.mono (γ:=γ) ?_ ?_ ?_ ?_ c h<;>intros<;>first|exact aj _|rfl
 have mvs:∀(c:List C) {v':List Value},dR γ w c v'->dR {γ with ω:=λy=>if y∈F then .row r else γ.ω y } w c v':=λc v' h=>
  by refine dR.mono (γ:=γ) ?_ ?_ ?_ ?_ c h<;>intros<;>first|exact aj _|rfl
 exact {
  sl:=λd c hl=>mv c (hi.sl d c hl)
  bx:=λd c hl=>by
   obtain⟨T',dZ,h2,h3,h4⟩:=hi.bx d c hl;refine⟨T',dZ,h2,mvs c h3,?_⟩;have iQ:γ.β d∉F:=λe=>by
    grind
   simp[iQ,h4]
  rw:=λq y hl=>by
   simp[St.setRow,look,dN]at hl;by_cases hd:r=q
   ·subst hd;simp[if_true,aa]at hl;subst hl;exact⟨F,hR,jm,λg hg=>by simp[hg]⟩
   ·simp[if_neg hd]at hl;obtain⟨F',h1,h2,h3⟩:=hi.rw q y hl;refine⟨F',h1,h2,λg hg=>?_⟩;have iQ:g∉F:=λe=>by
     grind
    simp[iQ,h3 g hg]
  own:=λy hy=>by
   by_cases he:y∈F
   ·exact (hF y he).2
   ·simp[if_neg he]at hy;exact hi.own y hy
  lI:=λy x hy=>by
   by_cases he:y∈F
   ·simp_all
   ·simp[if_neg he]at hy;exact hi.lI y x hy
  eN:=hi.eN,os:=hi.os,tape:=hi.tape,output:=hi.output,size:=hi.size,frame:=hi.frame,cell:=hi.cell,mono:=hi.mono,hold:=hi.hold,eX:=hi.eX }
theorem Inv.eO(hi:Inv γ h0 io w0 s f w){b:Nat}{T:TypeId}{vs:List Value}{cs:List C}(hB:kW w (γ.β b) T vs)(qM:γ.ω (γ.β b)=.box b)(hc:dR γ w cs vs):Inv γ h0 io w0 (s.eO b cs) f w:=
 {hi with
  bx:=λd c hl=>by
   simp[St.eO,look,dN]at hl;by_cases hd:b=d
   ·subst hd;simp[if_true,aa]at hl;subst hl;exact⟨T,vs,hB,hc,qM⟩
   ·simp[if_neg hd]at hl;exact hi.bx d c hl }
theorem Inv.cM(hi:Inv γ h0 io w0 s f w)(r:Nat):Inv γ h0 io w0 (s.cM r) f w:=
 hi.sub (λ_ _ h=>h) (λ_ _ h=>h) (λd c h=>by
  simp[St.cM,dN]at h
  simp_all)
theorem Inv.take(hi:Inv γ h0 io w0 s f w){r:Nat}{x:Row}(hl:look s.rw r=some x) :
  ∃γ' G,Inv γ' h0 io w0 (s.cM r) f w/\γ'.β=γ.β/\γ'.sl=γ.sl/\(∀g,γ.h g<=γ'.h g)/\Rp w (.list x.k x.fl x.es) (γ.sl r) G/\
   ((x.deep && !x.fz)=false->dm γ'.h G)/\((x.deep && !x.fz)=true->(G.map bG).Nodup/\∀be∈G,γ'.ω be.1=.db/\γ'.h be.1=0/\mJ w be.1)/\
   (∀be∈G,γ.ω be.1=.row r\/x.deep=false)/\(∀g,γ.ω g≠.row r->γ'.ω g=γ.ω g/\γ'.h g=γ.h g)/\∀g,γ'.ω g=γ.ω g\/γ'.ω g=.db\/γ'.ω g=.free:=by
 obtain⟨F,hR,jm,qM⟩:=hi.rw r x hl;obtain⟨A,n,c,q1,q2,q3,q4,q5,q6,q7,q8⟩:=hR;have hdr:=hi.cM r;have Bf:∀g,γ.ω g=.row r->(∀b cs,look (s.cM r).bx b=some cs->γ.ω g≠.box b)/\∀q y,look (s.cM r).rw q=some y->γ.ω g≠.row q:=by
  intro g hg;refine⟨λb cs _=>by rw[hg];simp,λq y hq=>?_⟩;rw[hg];simp only[St.cM,dN]at hq
  split at hq
  ·cases hq
  ·rename_i iQ;intro e;cases e;exact iQ rfl
 rcases q8 with ⟨rfl,rfl,rfl⟩|⟨g,o,xs,G,rfl,a2,a3,a4,a5,a6,a7,a8,a9,sL⟩
 ·refine⟨γ,[],hdr,rfl,rfl,λ_=>aj _,?_,λ_ _ h=>by simp at h,λ_=>by simp,λ_ h=>by simp at h,λ_ _=>⟨rfl,rfl⟩,λ_=>.inl rfl⟩;simp only[Rp];exact⟨none,n,0,q1,q2,q3,q4,q7,q5,q6,.inl ⟨by omega,trivial⟩⟩
 ·by_cases hn:n=0
  ·refine⟨γ,[],hdr,rfl,rfl,λ_=>aj _,?_,λ_ _ h=>by simp at h,λ_=>by simp,λ_ h=>by simp at h,λ_ _=>⟨rfl,rfl⟩,λ_=>.inl rfl⟩;simp only[Rp];exact⟨_,n,c,q1,q2,q3,q4,q7,q5,q6,.inl ⟨hn,trivial⟩⟩
  ·have uJ:Rp w (.list x.k x.fl x.es) (γ.sl r) ((g,o+n * x.k)::G):=by
    simp only[Rp];exact⟨_,n,c,q1,q2,q3,q4,q7,q5,q6,.inr ⟨by omega,g,o,xs,G,rfl,rfl,a4,a5⟩⟩
   have Cj:γ.ω g=.row r:=by
    cases hd:x.deep with
    |true=>exact qM g (by rw[(a9 hd).1];simp)
    |false=>exact qM g (by rw[(sL hd).1];simp)
   by_cases Ny:(x.deep && !x.fz)=true
   ·simp only[ab,cq]at Ny;obtain⟨hF,hz⟩:=a9 Ny.1;have hs:=hdr.settle (h':=γ.h) (ω':=λy=>if γ.ω y=.row r then .db else γ.ω y) (λ_=>aj _) (λg hg=>absurd rfl hg)
     (λy=>by
      by_cases hy:γ.ω y=.row r
      ·exact .inr ⟨.inr (by simp[hy]),by rw[hy];simp,Bf y hy⟩
      ·exact .inl (by simp[hy]))
     (λy b hy=>by
      by_cases NM:γ.ω y=.row r
      ·simp[NM]at hy
      ·simp only[if_neg NM]at hy;exact hi.lI y b hy)
    refine⟨_,(g,o+n * x.k)::G,hs,rfl,rfl,λ_=>aj _,uJ,λh=>by simp[Ny.1,Ny.2]at h,λ_=>⟨by rw[aQ,<- hF];exact jm,λbe hb=>?_⟩,λbe hb=>.inl ?_,λy hy=>by simp[hy],λy=>by dsimp only;split<;>simp⟩
    ·rcases ay.1 hb with rfl|hb
     ·exact⟨by simp[Cj],a7 Ny.2,a3⟩
     ·have hm:γ.ω be.1=.row r:=qM _ (by rw[hF];simp;exact .inr ⟨be.2,hb⟩);exact⟨by simp[hm],hz be hb⟩
    ·rcases ay.1 hb with rfl|hb
     ·exact Cj
     ·exact qM _ (by rw[hF];simp;exact .inr ⟨be.2,hb⟩)
   ·
    have abq:∀be∈G,x.deep=true->γ.ω be.1=.row r:=λbe hb hd=>qM _ (by rw[(a9 hd).1];simp;exact .inr ⟨be.2,hb⟩);have eN:∃h':Nat->Nat,(∀y,γ.h y<=h' y)/\dm h' ((g,o+n * x.k)::G)/\∀y,γ.ω y≠.row r->h' y=γ.h y:=by
     refine⟨λy=>if γ.ω y=.row r then γ.h y+((((g,o+n * x.k)::G).map pf).foldl max 0) else γ.h y,λy=>by dsimp only;split<;>omega,?_,λy hy=>by simp[hy]⟩;have mx:∀(l:List Nat) (a b:Nat),(b=a\/b∈l)->b<=l.foldl max a:=by
      intro l
      induction l with
      |nil=>intro a b hb;simp at hb;simp[hb]
      |cons z l ih=>
       intro a b hb;simp only[tq];have h1:=ih (max a z) (max a z) (.inl rfl);rcases hb with rfl|hb
       ·omega
       ·rcases ay.1 hb with rfl|hb
        ·omega
        ·exact ih _ _ (.inr hb)
     intro be hb;have hle:=mx (((g,o+n * x.k)::G).map pf) 0 be.2 (.inr (cR hb));by_cases hy:γ.ω be.1=.row r
     ·simp only[hy,if_true];omega
     ·simp only[if_neg hy];rcases ay.1 hb with rfl|hb
      ·exact absurd Cj hy
      ·cases hd:x.deep with
       |true=>exact absurd (abq be hb hd) hy
       |false=>exact (sL hd).2 be hb
    obtain⟨h',m1,m2,m3⟩:=eN;have hs:=hdr.settle (h':=h') (ω':=λy=>if γ.ω y=.row r then .free else γ.ω y) m1
     (λy hy=>by
      have hr:γ.ω y=.row r:=by
       rcases gp (γ.ω y=.row r) with h|h
       ·exact h
       ·exact absurd (m3 y h) hy
      have ho:=hi.own y (by rw[hr];simp);exact⟨ho.1,ho.2,Bf y hr⟩)
     (λy=>by
      by_cases hy:γ.ω y=.row r
      ·exact .inr ⟨.inl (by simp[hy]),by rw[hy];simp,Bf y hy⟩
      ·exact .inl (by simp[hy]))
     (λy b hy=>by
      by_cases NM:γ.ω y=.row r
      ·simp[NM]at hy
      ·simp only[if_neg NM]at hy;rw[m3 y NM];exact hi.lI y b hy)
    refine⟨_,_,hs,rfl,rfl,m1,uJ,λ_=>m2,λh=>absurd h Ny,λbe hb=>?_,λy hy=>by simp[hy,m3 y hy],λy=>by dsimp only;split<;>simp⟩;cases hd:x.deep with
    |false=>exact .inr rfl
    |true=>
     rcases ay.1 hb with rfl|hb
     ·exact .inl Cj
     ·exact .inl (abq be hb hd)
end
theorem DX.next'{a w w':World}(h:DX a.heap.size a w)(hk:DX w.heap.size w w'):DX a.heap.size a w':=Pr h hk h.size
section
variable {P:Program} {w:World}
theorem FO {t ty e : TypeId} {i : TypeInfo} {z : Value} {k by_ : Nat} (ht : P.underlying t = some (.slice e)) (hi : P.info? e = some i) (hz : i.zero = some z) (abI : i.size = k) (XY : i.bytes = by_) (Yo : z.cells.size = k) (hk : 0 < k)
    {v : Value} {n : Nat} {xs : List Value} (hx : xs.length = n * k) (hv : (v = .slice none 0 0 /\ n = 0) \/ ∃ g cap T cur, v = .slice (some ⟨g, 0, none⟩) n cap /\ kW w g T cur /\ n <= cap /\ cap <= maxLen /\ cur.length = cap * k /\ cur.take (n * k) = xs)
    {u : Value} {m : Nat} {news : List Value} (hl : news.length = m * k) (hu : (m = 0 /\ ∃ A c, u = .slice A 0 c) \/ ∃ b o c, u = .slice (some ⟨b, o, none⟩) m c /\ gy w b o news) (h1 : ∀ y ∈ news, one y = true) (h63 : n + m <= maxLen) (XZ : (n + m) * by_ <= room) :
    ∃ v' w', (Builtin.append_ #[t, t] ty #[v, u]).run P w = .ok v' w' /\
      ((m = 0 /\ v' = v /\ w' = w) \/
       (∃ g cap T cur, v = .slice (some ⟨g, 0, none⟩) n cap /\ kW w g T cur /\ v' = .slice (some ⟨g, 0, none⟩) (n + m) cap /\ n + m <= cap /\ cap <= maxLen /\ cur.length = cap * k /\ cur.take (n * k) = xs /\ w' = gk w g (.cells (cZ cur (n * k) news).toArray T (0, 0))) \/
       (∃ cap cs, v' = .slice (some ⟨w.heap.size, 0, none⟩) (n + m) cap /\ n + m <= cap /\ cap <= maxLen /\ w'.heap.size = w.heap.size + 1 /\ DX w.heap.size w w' /\ kW w' w.heap.size e cs /\ cs.length = cap * k /\ cs.take ((n + m) * k) = xs ++ news)) := by
  subst abI
  subst XY
  have agX : n + m <= 9223372036854775807 := by simp only [maxLen] at h63; omega
  have WC : (n + m) * i.bytes <= 140737488355328 := XZ
  have hlen : (xs ++ news).length = (n + m) * i.size := by rw [aL, hx, hl, uK]
  by_cases hm : m = 0
  · subst hm
    have hn : news = [] := bU (by simpa using hl)
    subst hn
    refine ⟨v, w, ?_, .inl ⟨rfl, rfl, rfl⟩⟩
    rcases hv with ⟨rfl, rfl⟩ | ⟨g, cap, T, cur, rfl, hB, I4, Ut, C5, WH⟩
    · rcases hu with ⟨_, A, c, rfl⟩ | ⟨b, o, c, rfl, _⟩
      · cases A <;> simp [Builtin.append_, run_underlying ht, sizeOf, typeInfo, hi, Builtin.lenOf, Builtin.firstCells, loadCells, loadCellsFrom]
      · simp [Builtin.append_, run_underlying ht, sizeOf, typeInfo, hi, Builtin.lenOf, Builtin.firstCells, loadCells, loadCellsFrom]
    · rcases hu with ⟨_, A, c, rfl⟩ | ⟨b, o, c, rfl, _⟩
      · cases A <;> simp [Builtin.append_, run_underlying ht, sizeOf, typeInfo, hi, Builtin.lenOf, Builtin.firstCells, loadCells, loadCellsFrom, I4, storeCells]
      · simp [Builtin.append_, run_underlying ht, sizeOf, typeInfo, hi, Builtin.lenOf, Builtin.firstCells, loadCells, loadCellsFrom, I4, storeCells]
  · rcases hu with ⟨h, _⟩ | ⟨b, o, c, rfl, gD⟩
    · omega
    · have Q3 : ∀ j y, news[j]? = some y -> w.cell? ((⟨b, o, none⟩ : Addr).add j) = some y := by
        intro j y hy
        rw [nI]
        exact gD j y hy
      have grown : ∀ (O2 : Nat), O2 < n + m ->
          (∃ cap cs, (Value.slice (some ⟨w.heap.size, 0, none⟩) (n + m) (grownCap w (n + m) O2 e)) = .slice (some ⟨w.heap.size, 0, none⟩) (n + m) cap /\ n + m <= cap /\ cap <= maxLen /\ (w.drew.alloc (.cells (xs.toArray ++ news.toArray ++ Builtin.zeroCells z.cells (grownCap w (n + m) O2 e - (n + m))) e)).heap.size = w.heap.size + 1 /\
            DX w.heap.size w (w.drew.alloc (.cells (xs.toArray ++ news.toArray ++ Builtin.zeroCells z.cells (grownCap w (n + m) O2 e - (n + m))) e)) /\ kW (w.drew.alloc (.cells (xs.toArray ++ news.toArray ++ Builtin.zeroCells z.cells (grownCap w (n + m) O2 e - (n + m))) e)) w.heap.size e cs /\ cs.length = cap * i.size /\ cs.take ((n + m) * i.size) = xs ++ news) := by
        intro O2 ho
        have yq := grownCap_ge w (n + m) O2 e
        have Ut : grownCap w (n + m) O2 e <= maxLen := grownCap_le_maxLen w (n + m) O2 e h63
        refine ⟨_, (xs ++ news) ++ (Builtin.zeroCells z.cells (grownCap w (n + m) O2 e - (n + m))).toList, rfl, yq, Ut, by rw [size_alloc]; rfl, ?_, ?_, ?_, ?_⟩
        · exact (Ps w).drew.next' (Cz w.drew _ _)
        · have e1 : xs.toArray ++ news.toArray ++ Builtin.zeroCells z.cells (grownCap w (n + m) O2 e - (n + m)) = ((xs ++ news) ++ (Builtin.zeroCells z.cells (grownCap w (n + m) O2 e - (n + m))).toList).toArray := by
            apply Array.ext'
            simp
          rw [e1]
          exact kW.new w.drew e _
        · rw [aL, hlen, eK, size_zeroCells, Yo, <- uK]
          congr 1
          omega
        · rw [<- hlen]; exact lZ
      rcases hv with ⟨rfl, rfl⟩ | ⟨g, cap, T, cur, rfl, hB, I4, Ut, C5, WH⟩
      · have hx0 : xs = [] := bU (by simpa using hx)
        subst hx0
        have hr := run_append_nil (P := P) w t ty e i z ht hi hz ⟨b, o, none⟩ m c news hl Q3 (by omega) (by omega) (by have hb := WC; simp only [bm] at hb; omega)
        have hg := grown 0 (by omega)
        simp only [bm, ao, Array.empty_append] at hg ⊢
        exact ⟨_, _, hr, .inr (.inr hg)⟩
      · by_cases hrm : n + m <= cap
        · have wG : n * i.size + news.length <= cur.length := by rw [hl, C5, <- uK]; exact ew _ hrm
          have hf := run_firstCells_some (P := P) w i.size m ⟨b, o, none⟩ m c news hl Q3
          have Cm := ly (P := P) (o := n * i.size) news 0 w cur hB (by simpa using wG) h1
          simp only [eD] at Cm
          refine ⟨_, _, ?_, .inr (.inl ⟨g, cap, T, cur, rfl, hB, rfl, hrm, Ut, C5, WH, rfl⟩)⟩
          simp [Builtin.append_, run_underlying ht, sizeOf, typeInfo, hi, Builtin.lenOf, hrm, hf, Addr.add_lit, Cm]
        · have holds : ∀ j y, xs[j]? = some y -> w.cell? ((⟨g, 0, none⟩ : Addr).add j) = some y := by
            intro j y hy
            rw [nI, bm, hB.cell]
            rw [<- WH, dt] at hy
            split at hy
            · exact hy
            · cases hy
          have hr := run_append_grow (P := P) w t ty e i z ht hi hz ⟨g, 0, none⟩ n cap xs hx holds ⟨b, o, none⟩ m c news hl Q3 (by omega) (by omega) (growslice_fits (by omega) WC)
          exact ⟨_, _, hr, .inr (.inr (grown cap (by omega)))⟩
end
end
section
open Go.RowKit
def B2(γ:Gh)(w:World)(g:Nat):Prop:=γ.ω g=.db/\γ.h g=0/\mJ w g
section
variable {h0:Nat->Nat} {io:List Nat} {w0:World} {f:Fm} {w:World}
theorem rM:∀{cs:List C} {s s':St} {ds:List D} {dp:Bool},B3 s cs=some (ds,dp,s')->cs.all C.cell=true/\ds.length=cs.length
 |[],s,s',ds,dp,h=>by simp[B3]at h;simp[<- h.1]
 |c::cs,s,s',ds,dp,h=>by
  unfold B3 at h;cases c with
  |d x=>
   simp only[ad]at h;obtain⟨⟨ga,Xx,s1⟩,h1,h2⟩:=h;simp[ak]at h2;have:=rM h1;simp[C.cell,this.1,<- h2.1,this.2]
  |nil k fl=>
   simp only[ad]at h;obtain⟨⟨ga,Xx,s1⟩,h1,h2⟩:=h;simp[ak]at h2;have:=rM h1;simp[C.cell,this.1,<- h2.1,this.2]
  |ref r=>
   simp only at h
   split at h
   ·simp only[ad]at h;obtain⟨⟨ga,Xx,s1⟩,h1,h2⟩:=h;simp[ak]at h2;have:=rM h1;simp[C.cell,this.1,<- h2.1,this.2]
   ·cases h
  |_=>simp at h
structure Emb (γ:Gh) (w:World) (dp:Bool) (G:Fp) (γ':Gh):Prop where
 β:γ'.β=γ.β
 sl:γ'.sl=γ.sl
 h:∀g,γ.h g<=γ'.h g
 some_:∀be∈G,be.2<=γ'.h be.1\/B2 γ' w be.1
 deep:dp=true->(G.map bG).Nodup/\∀be∈G,B2 γ' w be.1/\γ.ω be.1≠.db
 db:∀g,γ.ω g=.db->γ'.ω g=.db/\γ'.h g=γ.h g
 own:∀g,γ'.ω g=γ.ω g\/γ'.ω g=.db\/γ'.ω g=.free
theorem u0:∀(cs:List C) {γ:Gh} {s s':St} {vs:List Value} {ds:List D} {dp:Bool},Inv γ h0 io w0 s f w->dR γ w cs vs->B3 s cs=some (ds,dp,s')->
  ∃γ' G,Inv γ' h0 io w0 s' f w/\eb w ds vs G/\Emb γ w dp G γ'
 |[],γ,s,s',vs,ds,dp,hi,hc,he=>by
  simp[B3]at he;obtain⟨rfl,rfl,rfl⟩:=he;simp only[dR]at hc;subst hc;exact⟨γ,[],hi,by simp[eb],⟨rfl,rfl,λ_=>aj _,λ_ h=>by simp at h,λ_=>by simp,λ_ h=>⟨h,rfl⟩,λ_=>.inl rfl⟩⟩
 |c::cs,γ,s,s',vs,ds,dp,hi,hc,he=>by
  simp only[dR]at hc;obtain⟨v,dZ,rfl,hv,yt⟩:=hc;unfold B3 at he;cases c with
  |d x=>
   simp only[ad]at he;obtain⟨⟨ga,Xx,s1⟩,h1,h2⟩:=he;simp only[ak]at h2;obtain⟨rfl,rfl,rfl⟩:=h2;obtain⟨γ',G,i1,r1,e1⟩:=u0 cs hi yt h1;simp only[CR]at hv;obtain⟨F,hr,hs⟩:=hv;refine⟨γ',F++G,i1,by simp only[eb];exact⟨v,dZ,F,G,rfl,rfl,hr,r1⟩,⟨e1.β,e1.sl,e1.h,λbe hb=>?_,λhd=>?_,e1.db,e1.own⟩⟩
   ·rcases aM.1 hb with hb|hb
    ·exact .inl (aA (hs be hb) (e1.h _))
    ·exact e1.some_ be hb
   ·simp only[ab]at hd;have hF:F=[]:=by
     have:eb w [x] [v] F:=by simp only[eb];exact⟨v,[],F,[],rfl,by simp,hr,rfl,rfl⟩
     exact this.plain (by simp[hd.1])
    subst hF;exact e1.deep hd.2
  |nil k fl=>
   simp only[ad]at he;obtain⟨⟨ga,Xx,s1⟩,h1,h2⟩:=he;simp only[ak]at h2;obtain⟨rfl,rfl,rfl⟩:=h2;obtain⟨γ',G,i1,r1,e1⟩:=u0 cs hi yt h1;simp only[CR]at hv;obtain⟨rfl,hk⟩:=hv;refine⟨γ',G,i1,?_,e1⟩;simp only[eb];refine⟨_,dZ,[],G,rfl,rfl,?_,r1⟩;simp only[Rp];exact⟨none,0,0,rfl,rfl,aj _,by simp[maxLen],λ_=>jc,hk,λ_ h=>by simp at h,.inl ⟨rfl,trivial⟩⟩
  |ref r=>
   simp only at he
   split at he
   ·rename_i x hx;simp only[ad]at he;obtain⟨⟨ga,Xx,s1⟩,h1,h2⟩:=he;simp only[ak]at h2;obtain⟨rfl,rfl,rfl⟩:=h2;obtain⟨pc,G1,i1,b1,VJ,m1,r1,s1',d1,o1,k1,w1⟩:=hi.take hx;obtain⟨lN,G2,i2,r2,e2⟩:=u0 cs i1 (yt.mono (γ':=pc) m1 (λ_ _ _=>rfl) b1 VJ cs) h1;simp only[CR]at hv;have up:∀be∈G1,(x.deep && !x.fz)=true->B2 lN w be.1:=λbe hb hd=>by
     obtain⟨_,hl⟩:=d1 hd;obtain⟨l1,l2,l3⟩:=hl be hb;obtain⟨u1,u2⟩:=e2.db _ l1;exact⟨u1,u2.trans l2,l3⟩
    refine⟨lN,G1++G2,i2,by simp only[eb];exact⟨v,dZ,G1,G2,rfl,rfl,by rw[hv.1];exact r1,r2⟩,⟨e2.β.trans b1,e2.sl.trans VJ,λg=>aA (m1 g) (e2.h g),λbe hb=>?_,λhd=>?_,λg hg=>?_,λg=>?_⟩⟩
    ·rcases aM.1 hb with hb|hb
     ·cases hd:(x.deep && !x.fz) with
      |true=>exact .inr (up be hb hd)
      |false=>exact .inl (aA (s1' hd be hb) (e2.h _))
     ·exact e2.some_ be hb
    ·rw[ab]at hd;obtain⟨hd1,hd2⟩:=hd;obtain⟨n1,l1⟩:=d1 hd1;obtain⟨n2,l2⟩:=e2.deep hd2;have Ag:x.deep=true:=by simp at hd1;exact hd1.1
     refine⟨?_,λbe hb=>?_⟩
     ·rw[dd,bj];refine⟨n1,n2,?_⟩;intro a ha b hb e;subst e;obtain⟨TY,yo,rfl⟩:=bQ.1 ha;obtain⟨be2,Af,e2'⟩:=bQ.1 hb;exact (l2 be2 Af).2 (by rw[e2'];exact (l1 TY yo).1)
     ·rcases aM.1 hb with hb|hb
      ·refine⟨up be hb hd1,?_⟩;rcases o1 be hb with h|h
       ·rw[h];simp
       ·rw[Ag]at h;cases h
      ·refine⟨(l2 be hb).1,λh=>(l2 be hb).2 ?_⟩;rw[(k1 be.1 (by rw[h];simp)).1];exact h
    ·have h3:=k1 g (by rw[hg];simp);obtain⟨u1,u2⟩:=e2.db g (by rw[h3.1];exact hg);exact⟨u1,u2.trans h3.2⟩
    ·rcases e2.own g with h|h
     ·rw[h];exact w1 g
     ·exact .inr h
   ·cases he
  |_=>simp at he
theorem Inv.VF{γ:Gh}{s:St}(hi:Inv γ h0 io w0 s f w)(G:Fp)(hG:∀be∈G,be.2<=γ.h be.1\/B2 γ w be.1) :
  ∃γ',Inv γ' h0 io w0 s f w/\γ'.β=γ.β/\γ'.sl=γ.sl/\(∀g,γ.h g<=γ'.h g)/\dm γ'.h G/\(∀g,γ.ω g=.free->γ'.ω g=.free)/\∀g,γ.ω g≠.db->γ'.h g=γ.h g:=by
 have mx:∀(l:List Nat) (a b:Nat),(b=a\/b∈l)->b<=l.foldl max a:=by
  intro l
  induction l with
  |nil=>intro a b hb;simp at hb;simp[hb]
  |cons z l ih=>
   intro a b hb;simp;have h1:=ih (max a z) (max a z) (.inl rfl);rcases hb with rfl|hb
   ·omega
   ·rcases ay.1 hb with rfl|hb
    ·omega
    ·exact ih _ _ (.inr hb)
 have hs:=hi.settle (h':=λy=>if γ.ω y=.db then γ.h y+(G.map pf).foldl max 0 else γ.h y) (ω':=λy=>if γ.ω y=.db then .free else γ.ω y) (λy=>by split<;>omega)
  (λy hy=>by
   have hl:γ.ω y=.db:=by
    simp_all
   have ho:=hi.own y (by rw[hl];simp);simp_all)
  (λy=>by
   by_cases hl:γ.ω y=.db
   ·simp_all
   simp_all)
  (λy b hy=>by
   by_cases hl:γ.ω y=.db
   ·simp[hl]at hy
   ·simp[if_neg hl]at hy ⊢;exact hi.lI y b hy)
 refine⟨_,hs,rfl,rfl,λy=>by dsimp only;split<;>omega,λbe hb=>?_,λg hg=>by simp[hg],λg hg=>by simp[hg]⟩;have hle:=mx (G.map pf) 0 be.2 (.inr (cR hb));dsimp only;split
 ·omega
 ·rename_i hl;rcases hG be hb with h|h
  ·exact h
  ·exact absurd h.1 hl
theorem G9{k:Nat}{fl:Bool}:∀(cs:List C) {γ:Gh} {s s':St} {vs:List Value} {es:List (List D)} {dp:Bool},Inv γ h0 io w0 s f w->dR γ w cs vs->zM k fl s cs=some (es,dp,s')->
  ∃γ' G,Inv γ' h0 io w0 s' f w/\eH w es (vs.flatMap λv=>v.cells.toList) G/\Emb γ w dp G γ'/\es.length=cs.length/\(∀e∈es,e.length=k)/\(fl=true->flat es)/\∀v∈vs,v.cells.size=k
 |[],γ,s,s',vs,es,dp,hi,hc,he=>by
  simp[zM]at he;obtain⟨rfl,rfl,rfl⟩:=he;simp only[dR]at hc;subst hc;exact⟨γ,[],hi,by simp[eH],⟨rfl,rfl,λ_=>aj _,λ_ h=>by simp at h,λ_=>by simp,λ_ h=>⟨h,rfl⟩,λ_=>.inl rfl⟩,rfl,λ_ h=>by simp at h,λ_=>jc,λ_ h=>by simp at h⟩
 |c::cs,γ,s,s',vs,es,dp,hi,hc,he=>by
  simp only[dR]at hc;obtain⟨v,dZ,rfl,hv,yt⟩:=hc;unfold zM at he
  split at he
  ·rename_i ds dp1 s1 h1
   split at he
   ·rename_i hk;simp only[ad]at he;obtain⟨⟨ja,dp2,s2⟩,h2,h3⟩:=he;simp only[ak]at h3;obtain⟨rfl,rfl,rfl⟩:=h3;obtain⟨qL,hlen⟩:=rM h1;obtain⟨LH,_,_⟩:=hv.cells qL;obtain⟨pc,G1,i1,r1,e1⟩:=u0 _ hi LH h1;obtain⟨lN,G2,i2,r2,e2,l2,k2,f2,z2⟩:=G9 cs i1 (yt.mono (γ':=pc) e1.h (λ_ _ _=>rfl) e1.β e1.sl cs) h2;have mE:v.cells.size=k:=by rw[<- eK,LH.length,<- hlen];exact hk.1
    have up:∀g,B2 pc w g->B2 lN w g:=λg hg=>by
     obtain⟨u1,u2⟩:=e2.db g hg.1;exact⟨u1,u2.trans hg.2.1,hg.2.2⟩
    refine⟨lN,G1++G2,i2,?_,⟨e2.β.trans e1.β,e2.sl.trans e1.sl,λg=>aA (e1.h g) (e2.h g),λbe hb=>?_,λhd=>?_,λg hg=>?_,λg=>?_⟩,by simp[l2],?_,?_,?_⟩
    ·simp only[eH,pU];exact⟨_,_,G1,G2,rfl,rfl,r1,r2⟩
    ·rcases aM.1 hb with hb|hb
     ·rcases e1.some_ be hb with h|h
      ·exact .inl (aA h (e2.h _))
      ·exact .inr (up _ h)
     ·exact e2.some_ be hb
    ·rw[ab]at hd;obtain⟨n1,l1⟩:=e1.deep hd.1;obtain⟨n2,NT⟩:=e2.deep hd.2;refine⟨?_,λbe hb=>?_⟩
     ·rw[dd,bj];refine⟨n1,n2,?_⟩;intro a ha b hb e;subst e;obtain⟨TY,yo,rfl⟩:=bQ.1 ha;obtain⟨be2,Af,e2'⟩:=bQ.1 hb;exact (NT be2 Af).2 (by rw[e2'];exact (l1 TY yo).1.1)
     ·rcases aM.1 hb with hb|hb
      ·exact⟨up _ (l1 be hb).1,(l1 be hb).2⟩
      ·refine⟨(NT be hb).1,λh=>(NT be hb).2 ?_⟩;exact (e1.db _ h).1
    ·obtain⟨u1,u2⟩:=e1.db g hg;obtain⟨u3,u4⟩:=e2.db g u1;exact⟨u3,u4.trans u2⟩
    ·rcases e2.own g with h|h
     ·rw[h];exact e1.own g
     ·exact .inr h
    ·intro e he;rcases ay.1 he with rfl|he
     ·exact hk.1
     ·exact k2 e he
    ·intro hf e he;rcases ay.1 he with rfl|he
     ·have:=hk.2 hf
      simpa [cQ] using this
     ·exact f2 hf e he
    ·intro u hu;rcases ay.1 hu with rfl|hu
     ·exact mE
     ·exact z2 u hu
   ·cases he
  ·cases he
end
end
section
open Go.RowKit
theorem xV{b:Nat}:∀{zs:List C},zs.all C.const=true->C.jf b zs=zs
 |[],_=>by simp[C.jf]
 |z::zs,h=>by
  simp only[bT,ab]at h;have ih:=xV (b:=b) h.2;have hz:=h.1;cases z<;>simp_all[C.jf,C.kill,C.const]
def acA:Value->D->Bool
 | .int k n,.int k' n'=>k ==k' && n ==n' && k.wrap n ==n
 | .bool b,.bool b'=>b ==b'
 | .string s,.str s'=>s.data.toList ==s'.data.toList && nz s.size maxLen
 | .slice none 0 0,.list k _ []=>fk 0 k
 |_,_=>false
def Bk:List Value->List D->Bool
 |[],[]=>true
 |v::vs,c::cs=>acA v c && Bk vs cs
 |_,_=>false
theorem DB{w:World}:∀(vs:List Value) (ds:List D),Bk vs ds=true->eb w ds vs []
 |[],[],_=>by simp[eb]
 |[],_::_,h=>by simp[Bk]at h
 |_::_,[],h=>by simp[Bk]at h
 |v::vs,d::ds,h=>by
  simp only[Bk,ab]at h;simp only[eb];refine⟨v,vs,[],[],rfl,rfl,?_,DB vs ds h.2⟩;have ok:=h.1;unfold acA at ok
  split at ok
  ·simp only[ab,beq_iff_eq]at ok;obtain⟨⟨rfl,rfl⟩,hw⟩:=ok;simp[Rp,hw]
  ·simp only[beq_iff_eq]at ok;subst ok;simp[Rp]
  ·simp only[ab,beq_iff_eq,Nat.ble_eq]at ok;obtain⟨he,hw⟩:=ok;rw[FU he]at hw ⊢;simp[Rp,hw]
  ·simp only[lE]at ok;simp only[Rp];exact⟨none,0,0,rfl,rfl,aj _,by simp[maxLen],λ_=>jc,ok,λ_ h=>by simp at h,.inl ⟨rfl,trivial⟩⟩
  ·cases ok
section
variable {P:Program} {γ:Gh} {h0:Nat->Nat} {io:List Nat} {w0:World} {s s':St} {f:Fm} {w:World} {N:Nat} {ty:TypeId} {pos:String} {aft:Array Edge} {gd:Option (Nat×Bool)} {K:Fm->World->Prop}
 {cf:Nat->List A->Option (List A×List A)} {mf:Nat->Bool->List D->Int->Option (List D×Int)}
theorem IU{T:TypeId}{z:List Value}(h:qS P T=some z):∃z0:Value,z0.cells.toList=z/\∀w,(zeroValue T).run P w=.ok z0 w:=by
 unfold qS at h;cases hi:P.info? T with
 |none=>rw[hi]at h;simp at h
 |some i=>
  rw[hi]at h;cases hz:i.zero with
  |none=>simp[hz]at h
  |some z0=>
   simp[hz]at h;exact⟨z0,h,λw=>by simp[zeroValue,typeInfo,hi,hz]⟩
theorem Va(hi:Inv γ h0 io w0 s f w){T:TypeId}{z:List Value}{zs:List C}{b:Nat}(hz:qS P T=some z)(Yo:FC z zs=true)(he:kc cf mf s (some b) (.alloc zs)=some s')
  (h:∀γ' f' w',Inv γ' h0 io w0 s' f' w'->Tr (some b) [b] γ w γ' w' f f'->K f' w'):rf P N ⟨some b,.alloc T,ty,pos,aft,gd⟩ f w K:=by
 simp only[kc]at he
 split at he
 ·rename_i hc;simp only[aa]at he;subst he;obtain⟨z0,hz0,lQ⟩:=IU hz;have lQ:(execOp (fr f N).eval ⟨some b,.alloc T,ty,pos,aft,gd⟩).run P w=.ok (.value (.pointer (some ⟨w.heap.size,0,none⟩))) (w.alloc (.cells z.toArray T)):=by
   simp[execOp,Instr.alloc,lQ,newVar,newRow,newObj,Sem.run,<- hz0]
  refine Dz lQ λw1 hs hk hB=>?_;have h1:=hi.Gj hk;obtain⟨γ',h2,h3,h4,h5,_,_⟩:=h1.Jf (b:=b) hB (.inl (hi.qD (aj _))) (.inl hi.size) (hi.eN _ (aj _)) (vy z zs Yo);rw[xV hc]at h2;refine h γ' _ w1 (h2.put b (.ptr b 0) _ (by simp only[CR,h3])) ⟨jS hi hk _,λx hx=>h4 x (λe=>hx (by rw[e])),λg=>by rw[h5];exact aj _,.put⟩
 ·cases he
theorem ace(hi:Inv γ h0 io w0 s f w){T:TypeId}{x:Operand}{y:KX}{b:Nat}(hx:jo N x y=true)(he:kc cf mf s (some b) (.box y)=some s')
  (h:∀γ' f' w',Inv γ' h0 io w0 s' f' w'->Tr (some b) [b] γ w γ' w' f f'->K f' w'):rf P N ⟨some b,.box T x,ty,pos,aft,gd⟩ f w K:=by
 simp only[kc]at he
 split at he
 ·rename_i hc;simp only[aa]at he;subst he;obtain⟨C5,_,_⟩:=(bH hi hx).cells hc;have lQ:(execOp (fr f N).eval ⟨some b,.box T x,ty,pos,aft,gd⟩).run P w=.ok (.value (.pointer (some ⟨w.heap.size,0,none⟩))) (w.alloc (.cells ((fr f N).eval x).cells.toList.toArray T)):=by
   simp[execOp,Instr.box,newVar,newRow,newObj,Sem.run]
  refine Dz lQ λw1 hs hk hB=>?_;have h1:=hi.Gj hk;have agD:dR γ w1 (eW s y).cells ((fr f N).eval x).cells.toList:=C5.mono (γ':=γ) (λ_=>aj _) (jS hi hk (λ_=>False)).cell rfl rfl _;obtain⟨γ',h2,h3,h4,h5,_,_⟩:=h1.Jf (b:=b) hB (.inl (hi.qD (aj _))) (.inl hi.size) (hi.eN _ (aj _)) agD;refine h γ' _ w1 (h2.put b (.ptr b 0) _ (by simp only[CR,h3])) ⟨jS hi hk _,λx hx=>h4 x (λe=>hx (by rw[e])),λg=>by rw[h5];exact aj _,.put⟩
 ·cases he
theorem eH.Gj{w w1:World}{es:List (List D)}{vs:List Value}{G:Fp}(h:eH w es vs G)(hk:DX w.heap.size w w1):eH w1 es vs G:=
 h.cH es λbe hb j _=>World.cell?_of_block (w:=w) (hk.block _ (eH.lt es h be hb))
theorem Inv.newRow(hi:Inv γ h0 io w0 s f w){γ0:Gh}{w1:World}(hk:DX w.heap.size w w1){T:TypeId}{us:List Value}(hB:kW w1 w.heap.size T us){es:List (List D)}{xs:List Value}{k:Nat}{fl dp:Bool}{G:Fp}{n c:Nat}(hs:w1.heap.size=w.heap.size+1)
  (hr:eH w es xs G) (hx:us.take (n * k)=xs) (hn:n=es.length) (I4:n<=c) (hc:c<=maxLen) (hl:us.length=c * k) (tH:0 < k) (Ah:∀e∈es,e.length=k) (sV:fl=true->flat es) (he:Emb γ0 w dp G γ) (r:Nat) :
  ∃γ',Inv γ' h0 io w0 (s.newRow r ⟨es,k,fl,dp,true,false⟩) f w1/\γ'.sl r=.slice (some ⟨w.heap.size,0,none⟩) n c/\γ'.β=γ.β/\(∀g,γ.h g<=γ'.h g):=by
 have hlx:gy w1 w.heap.size 0 xs:=by
  intro j u hu;rw[bm,hB.cell];rw[<- hx,dt]at hu
  split at hu
  ·exact hu
  ·cases hu
 cases dp with
 |true=>
  obtain⟨jm,Ev⟩:=he.deep rfl;have h1:=hi.Gj hk;have hR:nh γ.h w1 ⟨es,k,fl,true,true,false⟩ (.slice (some ⟨w.heap.size,0,none⟩) n c) (w.heap.size::G.map bG):=by
   refine⟨_,n,c,rfl,hn,I4,hc,tH,Ah,sV,.inr ⟨w.heap.size,0,xs,G,rfl,by omega,⟨by omega,hk.KJ _ (aj _)⟩,hr.Gj hk,hlx,by rw[hi.eN _ (aj _)];omega,λ_=>hi.eN _ (aj _),λ_=>⟨rfl,T,us,hB,hl⟩,λ_=>⟨rfl,λbe hb=>⟨(Ev be hb).1.2.1,(jS hi hk (λ_=>False)).eX _ (Ev be hb).1.2.2⟩⟩,λh=>by cases h⟩⟩
  have ig:=eH.lt es hr;obtain⟨γ',h2,h3,h4,h5,_⟩:=h1.ry (r:=r) hR (cd.2 ⟨λhm=>by
    obtain⟨be,hb,e⟩:=bQ.1 hm;have:=ig be hb;omega,jm⟩) (λg hg=>by
    rcases ay.1 hg with rfl|hg
    ·exact⟨.inl (hi.qD (aj _)),by omega,.inl hi.size⟩
    ·obtain⟨be,hb,rfl⟩:=bQ.1 hg;have hl:=(Ev be hb).1.1;exact⟨.inr (.inl hl),by have:=ig be hb;omega,(hi.own _ (by rw[hl];simp)).2⟩)
  exact⟨γ',h2,h3,h4,λg=>by rw[h5];exact aj _⟩
 |false=>
  obtain⟨lN,i2,b2,s2,m2,aiw,fr2,k2⟩:=hi.VF G he.some_;have h1:=i2.Gj hk;have hR:nh lN.h w1 ⟨es,k,fl,false,true,false⟩ (.slice (some ⟨w.heap.size,0,none⟩) n c) [w.heap.size]:=by
   refine⟨_,n,c,rfl,hn,I4,hc,tH,Ah,sV,.inr ⟨w.heap.size,0,xs,G,rfl,by omega,⟨by omega,hk.KJ _ (aj _)⟩,hr.Gj hk,hlx,by rw[i2.eN _ (aj _)];omega,λ_=>i2.eN _ (aj _),λ_=>⟨rfl,T,us,hB,hl⟩,(λh=>by cases h),λ_=>⟨rfl,aiw⟩⟩⟩
  obtain⟨γ',h2,h3,h4,h5,_⟩:=h1.ry (r:=r) hR (by simp) (λg hg=>by
    simp only[ct]at hg;subst hg;exact⟨.inl (i2.qD (aj _)),by omega,.inl hi.size⟩)
  exact⟨γ',h2,h3,h4.trans b2,λg=>by rw[h5];exact m2 g⟩
def Bi(N:Nat):Nat->List (Nat×Operand)->List KX->Bool
 |_,[],[]=>true
 |j,(i,x)::ps,y::ys=>i ==j && jo N x y && Bi N (j+1) ps ys
 |_,_,_=>false
theorem DA(hi:Inv γ h0 io w0 s f w):∀(j:Nat) (ps:List (Nat×Operand)) (ys:List KX),Bi N j ps ys=true->
  dR γ w (ys.map (eW s)) (ps.map λp=>(fr f N).eval p.2)/\ps.map bG=List.range' j ps.length/\ps.length=ys.length
 |_,[],[],_=>by simp[dR]
 |_,[],_::_,h=>by simp[Bi]at h
 |_,_::_,[],h=>by simp[Bi]at h
 |j,(i,x)::ps,y::ys,h=>by
  simp only[Bi,ab,beq_iff_eq]at h;obtain⟨⟨rfl,h2⟩,h3⟩:=h;obtain⟨h4,h5,h6⟩:=DA hi (i+1) ps ys h3;refine⟨?_,by simp[List.range',h5],by simp[h6]⟩;simp only[aQ,dR];exact⟨_,_,rfl,bH hi h2,h4⟩
theorem Hj{k:Nat}:∀(vs:List (Nat×Value)) (j:Nat) (pre A:List Value),pre.length=j * k->vs.map bG=List.range' j vs.length->(∀v∈vs,v.2.cells.size=k)->A.length=vs.length * k->
  Instr.fill (λi=>some (i * k,k)) (pre++A).toArray vs=some (pre++vs.flatMap λv=>v.2.cells.toList).toArray
 |[],j,pre,A,_,_,_,hA=>by
  have:A=[]:=bU (by simpa using hA);simp[Instr.fill,this]
 |(i,v)::vs,j,pre,A,hp,hf,hs,hA=>by
  simp only[aQ,az,List.range',bw]at hf;obtain⟨rfl,hf⟩:=hf;have hv:=hs (i,v) (by simp);simp only at hv
  simp only[az,iG]at hA;simp only[Instr.fill,pV,aL,hp,hA,hv];rw[if_neg (by simp)];have e:v.cells.zipIdx.foldl (λcs (c,j)=>cs.setIfInBounds (i * k+j) c) (pre++A).toArray=((pre++v.cells.toList)++A.drop k).toArray:=by
   have h1:=MH (i * k) v.cells.toList (pre++A).toArray (by simp[hp,hA,hv]);simp only[Array.toArray_toList]at h1;rw[h1]
   congr 1
   have t1:(pre++A).take (i * k)=pre:=by rw[<- hp];exact lZ
   have t2:(pre++A).drop (i * k+k)=A.drop k:=by
    rw[List.drop_append,eB (by omega),hp,lJ,ao]
   unfold cZ;simp only[eK,hv,t1,t2]
  rw[e];have ih:=Hj vs (i+1) (pre++v.cells.toList) (A.drop k) (by simp[hp,hv,iG]) hf (λu hu=>hs u (by simp[hu])) (by simp[hA]);rw[ih];simp
theorem Vb(hi:Inv γ h0 io w0 s f w){T E:TypeId}{n k:Nat}{fl:Bool}{ps:Array (Nat×Operand)}{ys:List KX}{r:Nat}(hU:P.underlying T=some (.slice E))(hS:mB P E=some k)(hz:n=0\/(qS P E).isSome=true)(hps:Bi N 0 ps.toList ys=true)(hn:n=ps.size)(hm:nz (n * k) 16777216=true)
  (he:kc cf mf s (some r) (.na k fl ys)=some s') (h:∀γ' f' w',Inv γ' h0 io w0 s' f' w'->Tr (some r) (r::vE (ys.map (eW s))) γ w γ' w' f f'->K f' w'):rf P N ⟨some r,.buildSlice T n ps,ty,pos,aft,gd⟩ f w K:=by
 simp only[kc]at he
 split at he
 ·rename_i es dp s1 hem
  split at he
  ·rename_i tH;simp only[aa]at he;subst he;obtain⟨hcr,agI,hlen⟩:=DA hi 0 _ _ hps;obtain⟨pc,G,i1,r1,e1,l1,k1,f1,z1⟩:=G9 _ hi hcr hem;have mE:(ps.toList.map λp=>(fr f N).eval p.2).flatMap (λv=>v.cells.toList)=(ps.toList.map λp=>(p.1,(fr f N).eval p.2)).flatMap λv=>v.2.cells.toList:=by
    simp[List.flatMap_map]
   have NC:n=es.length:=by rw[l1,au,<- hlen,hn,eK]
   have UG:((ps.toList.map λp=>(fr f N).eval p.2).flatMap λv=>v.cells.toList).length=n * k:=by rw[eH.length es r1 k1,NC]
   have hm':n * k<=16777216:=by simpa using hm
   have lQ:(execOp (fr f N).eval ⟨some r,.buildSlice T n ps,ty,pos,aft,gd⟩).run P w=.ok (.value (.slice (some ⟨w.heap.size,0,none⟩) n n)) (w.alloc (.cells ((ps.toList.map λp=>(fr f N).eval p.2).flatMap λv=>v.cells.toList).toArray E)):=by
    have h24:¬(n * k > 2 ^ 24):=by omega
    have abp:∀A:Array Value,A.size=n * k->Instr.fill (λi=>some (i * k,k)) A (ps.toList.map λp=>(p.1,(fr f N).eval p.2))=some ((ps.toList.map λp=>(fr f N).eval p.2).flatMap λv=>v.cells.toList).toArray:=by
     intro A hA;have h1:=Hj (k:=k) (ps.toList.map λp=>(p.1,(fr f N).eval p.2)) 0 [] A.toList (by simp) (by rw[List.map_map,au];exact agI) (by
      intro v hv;obtain⟨p,hp,rfl⟩:=bQ.1 hv;exact z1 _ (cR hp)) (by simp[hA,hn])
     rw[mE]
     simpa using h1
    have hf2:=λzc:Array Value=>abp ((Array.range (n * k)).map (zc[· % zc.size]!)) (by simp);by_cases Ai:n * k=0
    ·have h3:=hf2 #[];simp only[execOp,Instr.buildSlice,Sem.run_bind,run_underlying hU,Result.andThen_ok,run_sizeOf hS,if_neg h24,if_pos Ai,Sem.run_pure];simp only[mT]at h3 ⊢;rw[h3];simp[newRow,newObj,Sem.run]
    ·have UH:(qS P E).isSome=true:=by
      rcases hz with hz|hz
      ·subst hz;simp at Ai
      ·exact hz
     obtain⟨zl,hzl⟩:=bF.1 UH;obtain⟨z0,_,hzr⟩:=IU hzl;have h3:=hf2 z0.cells;simp only[execOp,Instr.buildSlice,Sem.run_bind,run_underlying hU,Result.andThen_ok,run_sizeOf hS,if_neg h24,if_neg Ai,hzr,Sem.run_pure];simp only[mT]at h3 ⊢;rw[h3];simp[newRow,newObj,Sem.run]
   refine Dz lQ λw1 hs hk hB=>?_;obtain⟨γ',h2,h3,h4,h5⟩:=i1.newRow hk hB (n:=n) (c:=n) hs r1 (by rw[<- UG,aU]) NC (aj _) (by simp[maxLen];have:n<=n * k:=Nat.le_mul_of_pos_right n tH;omega) UG tH k1 f1 e1 r;refine h γ' _ w1 (h2.put r (.ref r) _ (by simp only[CR,h3];exact⟨trivial,_,_,_,rfl⟩)) ⟨jS hi hk _,λx _=>by rw[h4,e1.β],λg=>aA (e1.h g) (h5 g),.put⟩
  ·cases he
 ·cases he
end
end
section
open Go.RowKit
section
variable {γ:Gh} {h0:Nat->Nat} {io:List Nat} {w0:World} {s s':St} {f:Fm} {w:World}
theorem Inv.th(hi:Inv γ h0 io w0 s f w){r:Nat}{x:Row}(hl:look s.rw r=some x) :
  ∃γ' A n c,Inv γ' h0 io w0 (s.cM r) f w/\γ'.β=γ.β/\γ'.sl=γ.sl/\γ'.h=γ.h/\(∀g,γ.ω g≠.row r->γ'.ω g=γ.ω g)/\(∀g,γ.ω g=.row r->γ'.ω g=.db)/\
   γ.sl r=.slice A n c/\n=x.es.length/\n<=c/\c<=maxLen/\0 < x.k/\(∀e∈x.es,e.length=x.k)/\(x.fl=true->flat x.es)/\
   ((A=none/\c=0)\/∃g o xs G,A=some ⟨g,o,none⟩/\g < w.heap.size/\γ.ω g=.row r/\γ'.ω g=.db/\mJ w g/\eH w x.es xs G/\gy w g o xs/\γ.h g<=o+n * x.k/\(x.fz=false->γ.h g=0)/\
    (x.app=true->o=0/\∃T vs,kW w g T vs/\vs.length=c * x.k)/\(∀be∈G,be.2<=γ.h be.1\/(B2 γ' w be.1/\be.1≠g))/\(x.deep=true->(g::G.map bG).Nodup/\∀be∈G,B2 γ' w be.1/\γ.ω be.1=.row r)):=by
 obtain⟨F,hR,jm,qM⟩:=hi.rw r x hl;obtain⟨A,n,c,q1,q2,q3,q4,q5,q6,q7,q8⟩:=hR;have hdr:=hi.cM r;have Bf:∀g,γ.ω g=.row r->(∀b cs,look (s.cM r).bx b=some cs->γ.ω g≠.box b)/\∀q y,look (s.cM r).rw q=some y->γ.ω g≠.row q:=by
  intro g hg;refine⟨λb cs _=>by rw[hg];simp,λq y hq=>?_⟩;rw[hg];simp only[St.cM,dN]at hq
  split at hq
  ·cases hq
  ·rename_i iQ;intro e;cases e;exact iQ rfl
 have hs:=hdr.settle (h':=γ.h) (ω':=λy=>if γ.ω y=.row r then .db else γ.ω y) (λ_=>aj _) (λg hg=>absurd rfl hg)
  (λy=>by
   by_cases hy:γ.ω y=.row r
   ·exact .inr ⟨.inr (by simp[hy]),by rw[hy];simp,Bf y hy⟩
   ·exact .inl (by simp[hy]))
  (λy b hy=>by
   by_cases NM:γ.ω y=.row r
   ·simp[NM]at hy
   ·simp only[if_neg NM]at hy;exact hi.lI y b hy)
 refine⟨_,A,n,c,hs,rfl,rfl,rfl,λg hg=>by simp[hg],λg hg=>by simp[hg],q1,q2,q3,q4,q5,q6,q7,?_⟩;rcases q8 with ⟨rfl,rfl,rfl⟩|⟨g,o,xs,G,rfl,a2,a3,a4,a5,a6,a7,a8,a9,sL⟩
 ·exact .inl ⟨rfl,rfl⟩
 ·have Cj:γ.ω g=.row r:=by
   cases hd:x.deep with
   |true=>exact qM g (by rw[(a9 hd).1];simp)
   |false=>exact qM g (by rw[(sL hd).1];simp)
  have Ev:x.deep=true->∀be∈G,B2 {γ with h:=γ.h,ω:=λy=>if γ.ω y=.row r then .db else γ.ω y } w be.1/\γ.ω be.1=.row r:=λhd be hb=>by
   have hm:γ.ω be.1=.row r:=qM _ (by rw[(a9 hd).1];simp;exact .inr ⟨be.2,hb⟩);exact⟨⟨by simp[hm],((a9 hd).2 be hb).1,((a9 hd).2 be hb).2⟩,hm⟩
  refine .inr ⟨g,o,xs,G,rfl,a2,Cj,by simp[Cj],a3,a4,a5,a6,a7,a8,λbe hb=>?_,λhd=>⟨by rw[<- (a9 hd).1];exact jm,Ev hd⟩⟩;cases hd:x.deep with
  |true=>
   refine .inr ⟨(Ev hd be hb).1,λe=>?_⟩;rw[(a9 hd).1]at jm;exact (cd.1 jm).1 (by rw[<- e];exact cR hb)
  |false=>exact .inl ((sL hd).2 be hb)
theorem Inv.CK(hi:Inv γ h0 io w0 s f w){r:Nat}{x:Row}{n c g o:Nat}{xs:List Value}{G:Fp}(hn:n=x.es.length)(I4:n<=c)(hc:c<=maxLen)(tH:0 < x.k)(Ah:∀e∈x.es,e.length=x.k)(sV:x.fl=true->flat x.es)
  (hg:g < w.heap.size) (qM:γ.ω g=.db\/γ.ω g=.free) (Ww:w0.heap.size<=g\/g∈io) (JU:mJ w g) (hr:eH w x.es xs G) (hl:gy w g o xs) (hh:γ.h g<=o+n * x.k) (Gn:x.fz=false->γ.h g=0) (qU:x.app=true->o=0/\∃T vs,kW w g T vs/\vs.length=c * x.k)
  (HD:∀be∈G,be.2<=γ.h be.1\/(B2 γ w be.1/\be.1≠g)) (Ag:x.deep=true->(g::G.map bG).Nodup/\∀be∈G,B2 γ w be.1) :
  ∃γ' F,Inv γ' h0 io w0 s f w/\γ'.β=γ.β/\γ'.sl=γ.sl/\(∀y,γ.h y<=γ'.h y)/\nh γ'.h w x (.slice (some ⟨g,o,none⟩) n c) F/\F.Nodup/\(∀y∈F,(γ'.ω y=.free\/γ'.ω y=.db\/γ'.ω y=.row r)/\y < w.heap.size/\(w0.heap.size<=y\/y∈io))/\(x.deep=false->dm γ'.h G)/\(∀y,γ'.ω y=γ.ω y\/γ'.ω y=.free):=by
 cases hd:x.deep with
 |true=>
  obtain⟨jm,Ev⟩:=Ag hd;have hR:nh γ.h w x (.slice (some ⟨g,o,none⟩) n c) (g::G.map bG):=by
   refine⟨_,n,c,rfl,hn,I4,hc,tH,Ah,sV,.inr ⟨g,o,xs,G,rfl,hg,JU,hr,hl,hh,Gn,qU,λ_=>⟨rfl,λbe hb=>(Ev be hb).2⟩,λh=>by rw[hd]at h;cases h⟩⟩
  have ig:=eH.lt _ hr;exact⟨γ,_,hi,rfl,rfl,λ_=>aj _,hR,jm,λy hy=>by
    rcases ay.1 hy with rfl|hy
    ·exact⟨by rcases qM with h|h<;>simp[h],hg,Ww⟩
    ·obtain⟨be,hb,rfl⟩:=bQ.1 hy;have hl:=(Ev be hb).1;exact⟨.inr (.inl hl),ig be hb,(hi.own _ (by rw[hl];simp)).2⟩,(λh=>by cases h),λ_=>.inl rfl⟩
 |false=>
  have mx:∀(l:List Nat) (a b:Nat),(b=a\/b∈l)->b<=l.foldl max a:=by
   intro l
   induction l with
   |nil=>intro a b hb;simp at hb;simp[hb]
   |cons z l ih=>
    intro a b hb;simp only[tq];have h1:=ih (max a z) (max a z) (.inl rfl);rcases hb with rfl|hb
    ·omega
    ·rcases ay.1 hb with rfl|hb
     ·omega
     ·exact ih _ _ (.inr hb)
  have hs:=hi.settle (h':=λy=>if γ.ω y=.db/\y≠g then γ.h y+(G.map pf).foldl max 0 else γ.h y) (ω':=λy=>if γ.ω y=.db/\y≠g then .free else γ.ω y) (λy=>by split<;>omega)
   (λy hy=>by
    have hl:γ.ω y=.db:=by
     rcases gp (γ.ω y=.db/\y≠g) with h|h
     ·exact h.1
     ·exact absurd (by rw[if_neg h]) hy
    have ho:=hi.own y (by rw[hl];simp);exact⟨ho.1,ho.2,λ_ _ _=>by rw[hl];simp,λ_ _ _=>by rw[hl];simp⟩)
   (λy=>by
    by_cases hl:γ.ω y=.db/\y≠g
    ·exact .inr ⟨.inl (by rw[if_pos hl]),by rw[hl.1];simp,λ_ _ _=>by rw[hl.1];simp,λ_ _ _=>by rw[hl.1];simp⟩
    ·exact .inl (by rw[if_neg hl]))
   (λy b hy=>by
    by_cases hl:γ.ω y=.db/\y≠g
    ·rw[if_pos hl]at hy;cases hy
    ·rw[if_neg hl]at hy ⊢;exact hi.lI y b hy)
  have jV:dm (λy=>if γ.ω y=.db/\y≠g then γ.h y+(G.map pf).foldl max 0 else γ.h y) G:=by
   intro be hb;have hle:=mx (G.map pf) 0 be.2 (.inr (cR hb));dsimp only;split
   ·omega
   ·rename_i hl;rcases HD be hb with h|h
    ·exact h
    ·exact absurd ⟨h.1.1,h.2⟩ hl
  have X3:(λy=>if γ.ω y=.db/\y≠g then γ.h y+(G.map pf).foldl max 0 else γ.h y) g=γ.h g:=by simp
  have hR:nh (λy=>if γ.ω y=.db/\y≠g then γ.h y+(G.map pf).foldl max 0 else γ.h y) w x (.slice (some ⟨g,o,none⟩) n c) [g]:=by
   refine⟨_,n,c,rfl,hn,I4,hc,tH,Ah,sV,.inr ⟨g,o,xs,G,rfl,hg,JU,hr,hl,by rw[X3];exact hh,λh=>by rw[X3];exact Gn h,qU,(λh=>by rw[hd]at h;cases h),λ_=>⟨rfl,jV⟩⟩⟩
  exact⟨_,[g],hs,rfl,rfl,λy=>by dsimp only;split<;>omega,hR,by simp,λy hy=>by
    simp only[ct]at hy;subst hy;refine⟨?_,hg,Ww⟩;rcases qM with h|h<;>simp[h],λ_=>jV,λy=>by dsimp only;split<;>simp⟩
theorem Inv.rH(hi:Inv γ h0 io w0 s f w){r:Nat}{x:Row}{n c g o:Nat}{xs:List Value}{G:Fp}(hn:n=x.es.length)(I4:n<=c)(hc:c<=maxLen)(tH:0 < x.k)(Ah:∀e∈x.es,e.length=x.k)(sV:x.fl=true->flat x.es)
  (hg:g < w.heap.size) (qM:γ.ω g=.db\/γ.ω g=.free) (Ww:w0.heap.size<=g\/g∈io) (JU:mJ w g) (hr:eH w x.es xs G) (hl:gy w g o xs) (hh:γ.h g<=o+n * x.k) (Gn:x.fz=false->γ.h g=0) (qU:x.app=true->o=0/\∃T vs,kW w g T vs/\vs.length=c * x.k)
  (HD:∀be∈G,be.2<=γ.h be.1\/(B2 γ w be.1/\be.1≠g)) (Ag:x.deep=true->(g::G.map bG).Nodup/\∀be∈G,B2 γ w be.1) :
  ∃γ',Inv γ' h0 io w0 (s.newRow r x) f w/\γ'.sl r=.slice (some ⟨g,o,none⟩) n c/\γ'.β=γ.β/\(∀y,γ.h y<=γ'.h y)/\∀q,q≠r->γ'.sl q=γ.sl q:=by
 obtain⟨pc,F,i1,b1,s1,m1,hR,jm,hF,hsG,hwG⟩:=hi.CK (r:=r) hn I4 hc tH Ah sV hg qM Ww JU hr hl hh Gn qU HD Ag;obtain⟨γ',h2,h3,h4,h5,_,h6⟩:=i1.ry (r:=r) hR jm hF;exact⟨γ',h2,h3,h4.trans b1,λy=>by rw[h5];exact m1 y,λq hq=>by rw[h6 q hq,s1]⟩
theorem Inv.sM(hi:Inv γ h0 io w0 s f w){r:Nat}{x:Row}{n c g o:Nat}{xs:List Value}{G:Fp}(hn:n=x.es.length)(I4:n<=c)(hc:c<=maxLen)(tH:0 < x.k)(Ah:∀e∈x.es,e.length=x.k)(sV:x.fl=true->flat x.es)
  (hg:g < w.heap.size) (qM:γ.ω g=.db\/γ.ω g=.free) (Ww:w0.heap.size<=g\/g∈io) (JU:mJ w g) (hr:eH w x.es xs G) (hl:gy w g o xs) (hh:γ.h g<=o+n * x.k) (Gn:x.fz=false->γ.h g=0) (qU:x.app=true->o=0/\∃T vs,kW w g T vs/\vs.length=c * x.k)
  (HD:∀be∈G,be.2<=γ.h be.1\/(B2 γ w be.1/\be.1≠g)) (Ag:x.deep=true->(g::G.map bG).Nodup/\∀be∈G,B2 γ w be.1) (sW:γ.sl r=.slice (some ⟨g,o,none⟩) n c) :
  ∃γ',Inv γ' h0 io w0 (s.setRow r x) f w/\γ'.sl=γ.sl/\γ'.β=γ.β/\(∀y,γ.h y<=γ'.h y)/\(x.deep=false->dm γ'.h G)/\(∀y,γ'.ω y=γ.ω y\/γ'.ω y=.free\/γ'.ω y=.row r):=by
 obtain⟨pc,F,i1,b1,s1,m1,hR,jm,hF,hsG,hwG⟩:=hi.CK (r:=r) hn I4 hc tH Ah sV hg qM Ww JU hr hl hh Gn qU HD Ag;rw[<- sW,<- s1]at hR;obtain⟨γ',h2,h3,h4,h5,h6⟩:=i1.setRow (r:=r) hR jm hF;exact⟨γ',h2,h3.trans s1,h4.trans b1,λy=>by rw[h5];exact m1 y,λhd=>by rw[h5];exact hsG hd,λy=>by
  rcases h6 y with h|h
  ·rw[h];rcases hwG y with h'|h'
   ·exact .inl h'
   ·exact .inr (.inl h')
  ·exact .inr (.inr h)⟩
theorem l6(hi:Inv γ h0 io w0 s f w){g:Nat}{w1:World}{M:Own->Prop}(ho:TD g w w1)(hM:M (γ.ω g))(hc:∀j,j < γ.h g->w1.cell? ⟨g,j,none⟩=w.cell? ⟨g,j,none⟩):sJ γ M w w1 where
 os:=ho.os
 tape:=ho.tape
 output:=ho.output
 size:=by rw[ho.size];exact aj _
 block y hy hn:=ho.block y (λe=>hn (e▸hM))
 cell y j hj:=by
  by_cases e:y=g
  ·subst e;exact hc j hj
  ·exact World.cell?_of_block (w:=w) (ho.block y e)
 eX y hy:=⟨by rw[ho.size];exact hy.1,λj=>by
  by_cases e:y=g
  ·subst e;exact ho.fz j
  ·rw[World.frozen?_of_block (w:=w) (ho.block y e)];exact hy.2 j⟩
end
theorem Km(p m q u:List Value)(h:u.length=m.length):cZ (p++(m++q)) p.length u=p++u++q:=by
 unfold cZ;rw[lZ,List.drop_append,eB (by omega),lJ,ao,List.drop_append,eB (by omega),h,oM];simp
theorem uA{cs vs:List Value}{i:Nat}(h:i+vs.length<=cs.length):(cZ cs i vs).length=cs.length:=by
 unfold cZ;simp
 omega
theorem J8{g:Nat}{Ga Gp Gm Gs Gc G1:Fp}(h:(g::(Ga++((Gp++(Gm++Gs))++Gc)).map bG).Nodup)(h1:(G1.map bG).Nodup)(hd:∀y∈(Ga++((Gp++(Gm++Gs))++Gc)).map bG,y∉G1.map bG)(hg:g∉G1.map bG) :
  (g::(Ga++((Gp++G1++Gs)++Gc)).map bG).Nodup:=by
 simp only[dd,cd,aM,bj,not_or]at *
 grind
section
variable {P:Program} {γ:Gh} {h0:Nat->Nat} {io:List Nat} {w0:World} {s s':St} {f:Fm} {w:World} {N:Nat} {ty:TypeId} {pos:String} {aft:Array Edge} {gd:Option (Nat×Bool)} {K:Fm->World->Prop}
 {cf:Nat->List A->Option (List A×List A)} {mf:Nat->Bool->List D->Int->Option (List D×Int)}
theorem Dr{z:Array Value}{k:Nat}(hz:z.size=k)(hk:0 < k):∀m:Nat,(madeCells z (m * k)).toList=(aE m z.toList).flatten
 |0=>by simp[madeCells]
 |m+1=>by
  rw[fu,dh,<- Dr hz hk m]
  apply ed
  intro i;have g1:∀n j,(madeCells z n).toList[j]?=if j < n then some z[j % z.size]! else none:=by
   intro n j;simp only[madeCells,mT,Array.toList_range,List.getElem?_map];split
   ·rename_i h;simp[h]
   ·rename_i h;simp[h]
  rw[g1,uF,g1];simp only[eK,hz,iG];by_cases h1:i < k
  ·rw[if_pos (by omega),if_pos h1,Nat.mod_eq_of_lt h1];simp[hz,h1]
  ·rw[if_neg h1];by_cases h2:i < m * k+k
   ·rw[if_pos h2,if_pos (by omega)]
    congr 2
    rw[Nat.mod_eq_sub_mod (by omega)]
   ·rw[if_neg h2,if_neg (by omega)]
theorem MJ{w:World}{zs:List D}{vs:List Value}(h:eb w zs vs []):∀m:Nat,eH w (aE m zs) (aE m vs).flatten []
 |0=>by simp[eH]
 |m+1=>by
  rw[fu,fu,dh];simp only[eH];exact⟨vs,_,[],[],rfl,rfl,h,MJ h m⟩
theorem YK(hi:Inv γ h0 io w0 s f w){T E:TypeId}{k by_:Nat}{fl:Bool}{zs:List D}{x x':Operand}{y:KX}{r:Nat}{i:TypeInfo}{z:Value}(hU:P.underlying T=some (.slice E))(hI:P.info? E=some i)(hz:i.zero=some z)(mE:i.size=k)(XY:i.bytes=by_)(tH:0 < k)(hzd:Bk z.cells.toList zs=true)(hzl:zs.length=k)(sV:fl=true->cQ zs=true)
  (hx:jo N x y=true) (hx':jo N x' y=true) (he:kc cf mf s (some r) (.make k by_ fl zs y)=some s') (h:∀γ' f' w',Inv γ' h0 io w0 s' f' w'->Tr (some r) [r] γ w γ' w' f f'->K f' w'):rf P N ⟨some r,.makeSlice T x x',ty,pos,aft,gd⟩ f w K:=by
 have hv:=bH hi hx;have O1:=bH hi hx';simp only[kc]at he
 split at he
 ·rename_i r' n hr hn;cases hr;rw[hn]at hv O1;obtain⟨hv,_⟩:=gQ hv;obtain⟨O1,_⟩:=gQ O1
  split at he
  ·rename_i hc;obtain⟨c1,c2,c3⟩:=hc;simp only[aa]at he;subst he;have yo:(i.bytes:Int) * n<=281474976710656:=by
    rw[XY];have c2':n.toNat * by_<=140737488355328:=c2;have:((n.toNat * by_:Nat):Int)<=140737488355328:=Int.ofNat_le.2 c2';rw[Int.natCast_mul,Int.toNat_of_nonneg c1,Int.mul_comm]at this;omega
   have lQ:=run_make (P:=P) w T E i z hU hI hz .i64 .i64 n n c1 (Int.le_refl _) yo (by omega);have abF:eb w zs z.cells.toList []:=DB _ _ hzd;have hzc:z.cells.size=k:=by rw[<- eK,eb.length _ abF,hzl]
   have lg:=Dr hzc tH n.toNat;have abG:(execOp (fr f N).eval ⟨some r,.makeSlice T x x',ty,pos,aft,gd⟩).run P w=.ok (.value (.slice (some ⟨w.heap.size,0,none⟩) n.toNat n.toNat)) (w.alloc (.cells (aE n.toNat z.cells.toList).flatten.toArray E)):=by
    rw[mE]at lQ;rw[<- lg];simp[execOp,hv,O1,lQ]
   have NH:=MJ abF n.toNat;have Ah:∀e∈aE n.toNat zs,e.length=k:=λe he=>by rw[(List.mem_replicate.1 he).2];exact hzl
   have hlen:((aE n.toNat z.cells.toList).flatten).length=n.toNat * k:=by rw[eH.length _ NH Ah];simp
   refine Dz abG λw1 hs hk hB=>?_;obtain⟨γ',h2,h3,h4,h5⟩:=hi.newRow (γ0:=γ) (dp:=true) hk hB (n:=n.toNat) (c:=n.toNat) hs NH (by rw[<- hlen,aU]) (by simp) (aj _) (by simp[maxLen];omega) hlen tH Ah (λhf e he x hx=>by
     have h1:=sV hf;rw[(List.mem_replicate.1 he).2]at hx;simp only[cQ,aS]at h1;exact h1 x hx) ⟨rfl,rfl,λ_=>aj _,λ_ h=>by simp at h,λ_=>by simp,λ_ h=>⟨h,rfl⟩,λ_=>.inl rfl⟩ r
   exact h γ' _ w1 (h2.put r (.ref r) _ (by simp only[CR,h3];exact⟨trivial,_,_,_,rfl⟩)) ⟨jS hi hk _,λx _=>by rw[h4],λg=>h5 g,.put⟩
  ·cases he
 ·cases he
theorem ag_(hi:Inv γ h0 io w0 s f w){T:TypeId}{x v:Operand}{a b:KX}{n:Nat}(hS:mB P T=some n)(hx:jo N x a=true)(hv:jo N v b=true)(he:kc cf mf s none (.st n a b)=some s')
  (h:∀γ' f' w',Inv γ' h0 io w0 s' f' w'->Tr none (dW s none (.st n a b)) γ w γ' w' f f'->K f' w'):rf P N ⟨none,.store T x v,ty,pos,aft,gd⟩ f w K:=by
 have qh:=bH hi hx;have hpv:=bH hi hv;have fin:∀(g o:Nat) (T':TypeId) (cs:List Value),(fr f N).eval x=.pointer (some ⟨g,o,none⟩)->kW w g T' cs->((fr f N).eval v).cells.toList.length=n->o+n<=cs.length->(∀u∈((fr f N).eval v).cells.toList,one u=true)->
   (execOp (fr f N).eval ⟨none,.store T x v,ty,pos,aft,gd⟩).run P w=.ok .skip (gk w g (.cells (cZ cs o ((fr f N).eval v).cells.toList).toArray T' (0,0))):=by
  intro g o T' cs hp hB hl ho h1;have Cm:=ly (P:=P) (o:=o) ((fr f N).eval v).cells.toList 0 w cs hB (by omega) h1;simp only[eD]at Cm;have mE:((fr f N).eval v).cells.size=n:=by rw[<- eK];exact hl
  simp[execOp,Instr.storeAt,hp,Instr.sureAddr,storeVar,run_sizeOf hS,mE,Cm]
 have acB:∀{cs:List C} {vs:List Value},dR γ w cs vs->cs.all C.cell=true->∀u∈vs,one u=true:=by
  intro cs
  induction cs with
  |nil=>intro vs h _;simp only[dR]at h;simp[h]
  |cons c cs ih=>
   intro vs h hc;simp only[dR]at h;obtain⟨v,dZ,rfl,h2,h3⟩:=h;simp only[bT,ab]at hc;intro u hu;rcases ay.1 hu with rfl|hu
   ·cases c with
    |d x=>simp only[CR]at h2;obtain⟨F,h4,_⟩:=h2;exact h4.qN
    |nil k fl=>simp only[CR]at h2;rw[h2.1];rfl
    |ref r=>simp only[CR]at h2;obtain⟨_,A,n,c,rfl⟩:=h2;rfl
    |_=>simp[C.cell]at hc
   ·exact ih h3 hc.2 u hu
 simp only[kc]at he
 split at he
 ·rename_i b' o hb;rw[hb]at qh;simp only[CR]at qh
  split at he
  ·rename_i cs hl
   split at he
   ·rename_i hc;obtain⟨c1,c2,c3⟩:=hc;simp only[aa]at he;subst he;obtain⟨T',vs,h1,h2,h3⟩:=hi.bx b' cs hl;obtain⟨LH,_,_⟩:=hpv.cells c1;have hlen:=LH.length;refine FA (fin _ _ _ _ qh h1 (by rw[hlen];exact c2) (by rw[h2.length];exact c3) (acB LH c1)) ?_;have lh:=TD.gk w (γ.β b') (cZ vs o ((fr f N).eval v).cells.toList).toArray T';have mM:sJ γ (λo=>∃i∈[b'],o=.box i\/o=.row i) w _:=l6 hi lh ⟨b',by simp,.inl h3⟩ (λj hj=>by rw[hi.lI _ _ h3]at hj;omega);have Wt:Inv γ h0 io w0 {s with bx:=pg s.bx b' } f w:=hi.sub (λ_ _ h=>h) (λd c h=>by
     simp only[dN]at h
     split at h
     ·cases h
     ·exact h) (λ_ _ h=>h)
    have h5:=Wt.M7 (l6 Wt lh (M:=λo=>o=.box b') h3 (λj hj=>by rw[hi.lI _ _ h3]at hj;omega)) (by simp) (λb hb=>by cases hb;simp[dN]) (λr hr=>by cases hr);have aby:∀{cs:List C} {us:List Value},dR γ w cs us->dR γ (gk w (γ.β b') (.cells (cZ vs o ((fr f N).eval v).cells.toList).toArray T' (0,0))) cs us:=λh=>h.mono (γ':=γ) (λ_=>aj _) mM.cell rfl rfl _;have h6:=h5.eO (b:=b') (h1.ky T' _) h3 (aby (h2.ZX o LH));have e:({s with bx:=pg s.bx b' }:St).eO b' (fR cs o (eW s b).cells)=s.eO b' (fR cs o (eW s b).cells):=by
     have:pg (pg s.bx b') b'=pg s.bx b':=by simp[pg,lD]
     simp[St.eO,this]
    rw[e]at h6;refine h γ f _ h6 ⟨?_,λ_ _=>rfl,λ_=>aj _,.skip⟩;simp only[dW,hb];exact mM
   ·cases he
  ·cases he
 ·rename_i r k i o hb;rw[hb]at qh;simp only[CR]at qh;obtain⟨g,p,m,cc,sW,hp⟩:=qh
  split at he
  ·rename_i ds dp s1 hem;obtain⟨qL,xU⟩:=rM hem;obtain⟨LH,_,_⟩:=hpv.cells qL;obtain⟨pc,G1,i1,r1,e1⟩:=u0 _ hi LH hem
   split at he
   ·rename_i row hl
    split at he
    ·rename_i e Ep
     split at he
     ·rename_i hc;obtain⟨rfl,Gn,qU,Ht,hon,sV,hdd⟩:=hc;simp only[aa]at he;subst he;rw[cU]at Ep;obtain⟨lN,A,n',c',i2,b2,yc,n4,o2,l2,q1,q2,q3,q4,q5,q6,q7,q8⟩:=i1.th hl;rw[e1.sl,sW]at q1;simp only[Value.slice.injEq]at q1;obtain⟨rfl,rfl,rfl⟩:=q1;rcases q8 with ⟨q8,_⟩|⟨g',p',xs,G,a1,a2,a3,a4,a5,a6,a7,a8,a9,sL,B9,a12⟩
      ·cases q8
      ·simp only[aa,Addr.mk.injEq,and_true]at a1;obtain⟨rfl,rfl⟩:=a1;obtain⟨rfl,T',vs,hB,HF⟩:=sL qU;have yP:pc.h g=0:=a9 Gn;have X5:=(aI.1 Ep).1;have yp:=q6 e (cK Ep);have hul:=LH.length;have hus:((fr f N).eval v).cells.toList.length=n:=by rw[hul,<- xU];exact Ht
       have hik:i * row.k+row.k<=row.es.length * row.k:=by rw[<- iG];exact ew _ X5
       have hck:row.es.length * row.k<=cc * row.k:=ew _ (by omega);refine FA (fin _ _ _ _ hp hB hus (by omega) (acB LH qL)) ?_;have lh:=TD.gk w g (cZ vs (0+i * row.k+o) ((fr f N).eval v).cells.toList).toArray T';have Rb:γ.ω g=.row r:=by
        rcases e1.own g with h|h|h
        ·rw[<- h];exact a3
        ·rw[a3]at h;cases h
        ·rw[a3]at h;cases h
       have ag3:γ.h g=0:=by have:=e1.h g;omega
       have mM:sJ γ (λo=>∃i∈r::rowsOf (eW s b).cells,o=.box i\/o=.row i) w _:=l6 hi lh ⟨r,by simp,.inr Rb⟩ (λj hj=>by rw[ag3]at hj;omega);have h5:=i2.M7 (l6 i2 lh (M:=λo=>o=.db) a4 (λj hj=>by rw[n4,yP]at hj;omega)) (by simp) (λb hb=>by cases hb) (λr hr=>by cases hr);have e0:row.es=row.es.take i++(e::row.es.drop (i+1)):=by
        rw[<- (aI.1 Ep).2,List.getElem_cons_drop,bc]
       have a6':=a6;rw[e0]at a6';obtain⟨x1,x2,Ga,Gb,ex,eG,ra,rb⟩:=eH.fy _ a6';simp only[eH]at rb;obtain⟨xe,x3,Ge,Gc,ex2,eG2,re,rc⟩:=rb;subst ex2 eG2;have I2:x1.length=i * row.k:=by
        rw[eH.length _ ra (λx hx=>q6 x (bN hx)),a_,dT (by omega)]
       have hle:xe.length=row.k:=by rw[eb.length _ re];exact yp
       have e2:e=e.take o++((e.drop o).take n++e.drop (o+n)):=by
        rw[<- pe,bc,bc]
       have re':=re;rw[e2]at re';obtain⟨xa,xr,Gp,Gr,ex3,eG3,rp,rr⟩:=eb.fy _ re';obtain⟨xm,xc,Gm,Gs,ex4,eG4,rm,rs⟩:=eb.fy _ rr;subst ex3 eG3 ex4 eG4;have hla:xa.length=o:=by rw[eb.length _ rp,a_,yp,dT (by omega)]
       have hlm:xm.length=n:=by rw[eb.length _ rm,a_,gL,yp,dT (by omega)]
       have eN:eb w (fR e o ds) (xa++((fr f N).eval v).cells.toList++xc) (Gp++G1++Gs):=by
        unfold fR;rw[Ht];exact eb.append _ (eb.append _ rp r1) rs
       have UG:xs.length<=vs.length:=by rw[eH.length _ a6 q6,HF];exact hck
       have UB:vs=xs++vs.drop xs.length:=by
        have:vs.take xs.length=xs:=by
         apply ed
         intro j;rw[dt];by_cases hj:j < xs.length
         ·rw[if_pos hj];have h7:=a7 j xs[j] (by simp[hj]);rw[bm,hB.cell]at h7;rw[h7];simp[hj]
         ·rw[if_neg hj,jN (by omega)]
        rw[<- bc xs.length vs,this];simp
       have Yi:cZ vs (0+i * row.k+o) ((fr f N).eval v).cells.toList=(x1++((xa++((fr f N).eval v).cells.toList++xc)++x3))++vs.drop xs.length:=by
        have e5:vs=(x1++xa)++(xm++(xc++x3++vs.drop xs.length)):=by
         rw[ex]at UB;rw[ex]
         simpa using UB
        have h7:=Km (x1++xa) xm (xc++x3++vs.drop xs.length) ((fr f N).eval v).cells.toList (by omega);rw[<- e5]at h7;rw[show 0+i * row.k+o=(x1++xa).length from by simp[I2,hla],h7];simp
       have X7:gy (gk w g (.cells (cZ vs (0+i * row.k+o) ((fr f N).eval v).cells.toList).toArray T' (0,0))) g 0 (x1++((xa++((fr f N).eval v).cells.toList++xc)++x3)):=by
        have h7:=(hB.ky T' (cZ vs (0+i * row.k+o) ((fr f N).eval v).cells.toList)).J0;intro j u hu;refine h7 j u ?_;rw[Yi,cl (aI.1 hu).1];exact hu
       have hold:∀be∈Ga++((Gp++Gs)++Gc),be∈G:=by
        intro be hb;rw[eG];simp only[aM]at hb ⊢
        grind
       have tu:∀be∈Ga++((Gp++G1++Gs)++Gc),be∈G\/be∈G1:=by
        intro be hb;simp only[aM]at hb;by_cases h8:be∈G1
        ·exact .inr h8
        ·refine .inl (hold be ?_);simp only[aM]
         grind
       have JT:∀be∈Ga++((Gp++G1++Gs)++Gc),be.2<=lN.h be.1\/(B2 lN (gk w g (.cells (cZ vs (0+i * row.k+o) ((fr f N).eval v).cells.toList).toArray T' (0,0))) be.1/\be.1≠g):=by
        intro be hb;rcases tu be hb with h8|h8
        ·rcases B9 be h8 with h9|⟨h9,Gl⟩
         ·exact .inl (by rw[n4];exact h9)
         ·exact .inr ⟨⟨h9.1,h9.2.1,by rw[fG];exact h9.2.2.1,λj=>by rw[World.frozen?_of_block (w:=w) (lh.block _ Gl)];exact h9.2.2.2 j⟩,Gl⟩
        ·rcases e1.some_ be h8 with h9|h9
         ·exact .inl (by rw[n4];exact h9)
         ·have Gl:be.1≠g:=λe=>by have:=h9.1;rw[e,a3]at this;cases this
          exact .inr ⟨⟨by rw[o2 _ (by rw[h9.1];simp)];exact h9.1,by rw[n4];exact h9.2.1,by rw[fG];exact h9.2.2.1,λj=>by rw[World.frozen?_of_block (w:=w) (lh.block _ Gl)];exact h9.2.2.2 j⟩,Gl⟩
       have NI:eH (gk w g (.cells (cZ vs (0+i * row.k+o) ((fr f N).eval v).cells.toList).toArray T' (0,0))) (row.es.set i (fR e o ds)) (x1++((xa++((fr f N).eval v).cells.toList++xc)++x3)) (Ga++((Gp++G1++Gs)++Gc)):=by
        have h7:eH w (row.es.set i (fR e o ds)) (x1++((xa++((fr f N).eval v).cells.toList++xc)++x3)) (Ga++((Gp++G1++Gs)++Gc)):=by
         rw[List.set_eq_take_append_cons_drop,if_pos X5];refine eH.append _ ra ?_;simp only[eH];exact⟨_,_,_,_,rfl,rfl,eN,rc⟩
        refine h7.cH _ λbe hb j hj=>?_;by_cases h8:be.1=g
        ·rcases JT be hb with h9|h9
         ·rw[h8,n4,yP]at h9;omega
         ·exact absurd h8 h9.2
        ·exact World.cell?_of_block (w:=w) (lh.block _ h8)
       obtain⟨MZ,h6,h7,h8,h9,_,_⟩:=h5.sM (r:=r) (x:={row with es:=row.es.set i (fR e o ds) }) (n:=m) (c:=cc) (g:=g) (o:=0) (by simp[q2]) q3 q4 q5
        (λy hy=>by
         rcases kB hy with h|h
         ·exact q6 y h
         ·rw[h];unfold fR;simp[yp];omega)
        (λhf y hy=>by
         rcases kB hy with h|h
         ·exact q7 hf y h
         ·rw[h];intro z hz;unfold fR at hz;simp only[aM]at hz;rcases hz with (hz|hz)|hz
          ·exact q7 hf e (cK Ep) z (bN hz)
          ·have:=sV hf;simp only[cQ,aS]at this;exact this z hz
          ·exact q7 hf e (cK Ep) z (iB hz))
        (by rw[fG];exact a2) (.inl a4) (by have:=(i2.own g (by rw[a4];simp)).2;exact this) ⟨by rw[fG];omega,lh.fz⟩ NI X7 (by rw[n4,yP];omega) (λ_=>by rw[n4,yP]) (λ_=>⟨rfl,T',_,hB.ky T' _,by rw[uA (by omega)];exact HF⟩)
        JT
        (λhd=>by
         have Ws:dp=true:=by
          have hd':row.deep=true:=hd
          simpa [hd'] using hdd
         obtain⟨n1,l1⟩:=e1.deep Ws;obtain⟨n2,NT⟩:=a12 hd;refine⟨?_,λbe hb=>?_⟩
         ·have Wr:∀y∈G.map bG,y∉G1.map bG:=by
           intro y hy hy1;obtain⟨be,hb,rfl⟩:=bQ.1 hy;obtain⟨TY,yo,e8⟩:=bQ.1 hy1;have u1:=(NT be hb).2;have u2:=(l1 TY yo).1.1;rw[e8,u1]at u2;cases u2
          have hg1:g∉G1.map bG:=by
           intro hy1;obtain⟨TY,yo,e8⟩:=bQ.1 hy1;have u2:=(l1 TY yo).1.1;rw[e8,a3]at u2;cases u2
          rw[eG]at n2 Wr;exact J8 n2 n1 Wr hg1
         ·rcases JT be hb with Gl|Gl
          ·rcases tu be hb with Nu|Nu
           ·have:=(NT be Nu).1;rcases B9 be Nu with JJ|JJ
            ·refine⟨this.1,this.2.1,?_⟩;have iQ:be.1≠g:=λe9=>by
              have:=(cd.1 n2).1;exact this (by rw[<- e9];exact cR Nu)
             exact⟨by rw[fG];exact this.2.2.1,λj=>by rw[World.frozen?_of_block (w:=w) (lh.block _ iQ)];exact this.2.2.2 j⟩
            ·exact⟨this.1,this.2.1,by rw[fG];exact this.2.2.1,λj=>by rw[World.frozen?_of_block (w:=w) (lh.block _ JJ.2)];exact this.2.2.2 j⟩
           ·have JJ:=(l1 be Nu).1;have iQ:be.1≠g:=λe=>by have:=JJ.1;rw[e,a3]at this;cases this
            exact⟨by rw[o2 _ (by rw[JJ.1];simp)];exact JJ.1,by rw[n4];exact JJ.2.1,by rw[fG];exact JJ.2.2.1,λj=>by rw[World.frozen?_of_block (w:=w) (lh.block _ iQ)];exact JJ.2.2.2 j⟩
          ·exact Gl.1)
        (by rw[yc,e1.sl];exact sW)
       have e6:(s1.cM r).setRow r {row with es:=row.es.set i (fR e o ds) }=s1.setRow r {row with es:=row.es.set i (fR e o ds) }:=by
        have:pg (pg s1.rw r) r=pg s1.rw r:=by simp[pg,lD]
        simp[St.setRow,St.cM,this]
       rw[e6]at h6;refine h MZ f _ h6 ⟨?_,λ_ _=>by rw[h8,b2,e1.β],λy=>by have:=h9 y;rw[n4]at this;exact aA (e1.h y) this,.skip⟩;simp only[dW,hb];exact mM
     ·cases he
    ·cases he
   ·cases he
  ·cases he
 ·cases he
end
end
section
open Go.RowKit
section
variable {P:Program} {γ:Gh} {h0:Nat->Nat} {io:List Nat} {w0:World} {s s':St} {f:Fm} {w:World} {N:Nat} {ty:TypeId} {pos:String} {aft:Array Edge} {gd:Option (Nat×Bool)} {K:Fm->World->Prop}
 {cf:Nat->List A->Option (List A×List A)} {mf:Nat->Bool->List D->Int->Option (List D×Int)}
theorem Jg(hi:Inv γ h0 io w0 s f w){c:C}{u:Value}(hc:CR γ w c u){k:Nat}{fl:Bool}{es:List (List D)}{dp:Bool}{s1:St}(he:mK s k fl c=some (es,dp,s1)) :
  ∃pc G news,Inv pc h0 io w0 s1 f w/\eH w es news G/\Emb γ w dp G pc/\(∀e∈es,e.length=k)/\(fl=true->flat es)/\((es.length=0/\∃A c,u=.slice A 0 c)\/∃b o c,u=.slice (some ⟨b,o,none⟩) es.length c/\gy w b o news):=by
 cases c with
 |d x=>
  cases x with
  |list k' sR ja=>
   simp only[mK]at he
   split at he
   ·rename_i hk;obtain⟨rfl,rfl⟩:=hk;simp only[aa,ak]at he;obtain⟨rfl,rfl,rfl⟩:=he;simp only[CR,Rp]at hc;obtain⟨F,⟨A,n,c,q1,q2,q3,q4,q5,q6,q7,q8⟩,jV⟩:=hc;rcases q8 with ⟨q8,rfl⟩|⟨h1,b,o,xs,G,rfl,rfl,a2,a3⟩
    ·have:ja=[]:=bU (by omega);subst this;exact⟨γ,[],[],hi,by simp[eH],⟨rfl,rfl,λ_=>aj _,λ_ h=>by simp at h,λ_=>by simp,λ_ h=>⟨h,rfl⟩,λ_=>.inl rfl⟩,q7,q5,.inl ⟨rfl,A,c,by rw[q1,q8]⟩⟩
    ·refine⟨γ,G,xs,hi,a2,⟨rfl,rfl,λ_=>aj _,λbe hb=>.inl (jV be (by simp[hb])),λhf=>?_,λ_ h=>⟨h,rfl⟩,λ_=>.inl rfl⟩,q7,q5,.inr ⟨b,o,c,by rw[q1,q2],a3⟩⟩;have:G=[]:=a2.plain (q5 hf);subst this;simp
   ·cases he
  |_=>simp[mK]at he
 |nil k' sR=>
  simp only[mK,aa,ak]at he;obtain⟨rfl,rfl,rfl⟩:=he;simp only[CR]at hc;exact⟨γ,[],[],hi,by simp[eH],⟨rfl,rfl,λ_=>aj _,λ_ h=>by simp at h,λ_=>by simp,λ_ h=>⟨h,rfl⟩,λ_=>.inl rfl⟩,λ_ h=>by simp at h,λ_=>jc,.inl ⟨rfl,none,0,hc.1⟩⟩
 |ref q=>
  simp only[mK]at he
  split at he
  ·rename_i x hx
   split at he
   ·rename_i hk;obtain⟨rfl,rfl⟩:=hk;simp only[aa,ak]at he;obtain⟨rfl,rfl,rfl⟩:=he;obtain⟨pc,G1,i1,b1,VJ,m1,r1,s1',d1,o1,k1,w1⟩:=hi.take hx;simp only[CR]at hc;simp only[Rp]at r1;obtain⟨A,n,c,q1,q2,q3,q4,q5,q6,q7,q8⟩:=r1;have ab1:∀g,γ.ω g=.db->pc.ω g=.db/\pc.h g=γ.h g:=λg hg=>by
     have:=k1 g (by rw[hg];simp);exact⟨this.1.trans hg,this.2⟩
    rcases q8 with ⟨q8,rfl⟩|⟨h1,b,o,xs,G,rfl,rfl,a2,a3⟩
    ·have:x.es=[]:=bU (by omega);rw[this];exact⟨pc,[],[],i1,by simp[eH],⟨b1,VJ,m1,λ_ h=>by simp at h,λ_=>by simp,ab1,w1⟩,λ_ h=>by simp at h,λ_=>jc,.inl ⟨rfl,A,c,by rw[hc.1,q1,q8]⟩⟩
    ·refine⟨pc,G,xs,i1,a2,⟨b1,VJ,m1,λbe hb=>?_,λhf=>?_,ab1,w1⟩,q7,q5,.inr ⟨b,o,c,by rw[hc.1,q1,q2],a3⟩⟩
     ·cases hd:(x.deep && !x.fz) with
      |true=>exact .inr ((d1 hd).2 be (by simp[hb]))
      |false=>exact .inl (s1' hd be (by simp[hb]))
     ·rw[dD]at hf;rcases hf with hf|hf
      ·obtain⟨n1,l1⟩:=d1 hf;refine⟨(cd.1 n1).2,λbe hb=>⟨l1 be (by simp[hb]),?_⟩⟩;rcases o1 be (by simp[hb]) with h|h
       ·rw[h];simp
       ·simp[h]at hf
      ·have:G=[]:=a2.plain (q5 hf);subst this;simp
   ·cases he
  ·cases he
 |_=>simp[mK]at he
theorem Dm{α:Type}(l:List (Nat×α))(r:Nat):pg (pg l r) r=pg l r:=by simp[pg,lD]
theorem jE(s:St)(r:Nat)(x:Row):(s.cM r).newRow r x=s.newRow r x:=by
 simp[St.newRow,St.setRow,St.cM,St.kill,Dm]
theorem acd(hi:Inv γ h0 io w0 s f w){T E:TypeId}{k by_:Nat}{fl:Bool}{x y:Operand}{a b:KX}{d:Nat}{i:TypeInfo}{z:Value}(hU:P.underlying T=some (.slice E))(hI:P.info? E=some i)(hz:i.zero=some z)(mE:i.size=k)(XY:i.bytes=by_)(Yo:z.cells.size=k)(tH:0 < k)
  (hx:jo N x a=true) (hy:jo N y b=true) (he:kc cf mf s (some d) (.app k by_ fl a b)=some s') (h:∀γ' f' w',Inv γ' h0 io w0 s' f' w'->Tr (some d) (dW s (some d) (.app k by_ fl a b)) γ w γ' w' f f'->K f' w') :
  rf P N ⟨some d,.call {callee:=.builtin .append,args:=#[x,y],argTypes:=#[T,T] },ty,pos,aft,gd⟩ f w K:=by
 have qh:=bH hi hx;have Yb:=bH hi hy;simp only[kc]at he
 split at he
 ·cases he
 ·rename_i es dp s1 Q_;obtain⟨pc,G2,news,i1,r2,e1,hk2,hf2,hu⟩:=Jg hi Yb Q_;have NC:news.length=es.length * k:=eH.length es r2 hk2;have vU:=r2.qN;have lQ:∀{v' w'},(Builtin.append_ #[T,T] ty #[(fr f N).eval x,(fr f N).eval y]).run P w=.ok v' w'->(execOp (fr f N).eval ⟨some d,.call {callee:=.builtin .append,args:=#[x,y],argTypes:=#[T,T] },ty,pos,aft,gd⟩).run P w=.ok (.value v') w':=by
   intro v' w' hr;simp[execOp,resolve,invoke,builtin,hr]
  split at he
  ·
   rename_i k' sR I5;rw[I5]at qh;simp only[CR]at qh
   split at he
   ·rename_i hc;obtain⟨rfl,rfl,c3,c4⟩:=hc;simp only[aa]at he;subst he;obtain⟨v',w',hr,yr⟩:=FO (P:=P) (w:=w) (ty:=ty) (k:=k') (by_:=by_) hU hI hz mE XY Yo tH (v:=(fr f N).eval x) (n:=0) (xs:=[]) (by simp) (.inl ⟨qh.1,rfl⟩) (u:=(fr f N).eval y) (m:=es.length) NC hu vU (by omega) (by simpa using c3);refine so (lQ hr) ?_;rcases yr with ⟨h1,rfl,rfl⟩|⟨g,cap,T',cur,h1,_⟩|⟨cap,cs,rfl,h2,h3,h4,h5,h6,h7,h8⟩
    ·have vT:es=[]:=bU h1;subst vT;have hR:nh pc.h w' ⟨[],k',sR,dp,true,false⟩ ((fr f N).eval x) []:=⟨none,0,0,qh.1,rfl,aj _,by simp[maxLen],tH,λ_ h=>by simp at h,λ_=>jc,.inl ⟨rfl,rfl,rfl⟩⟩
     obtain⟨γ',j1,j2,j3,j4,_⟩:=i1.ry (r:=d) hR (by simp) (λ_ h=>by simp at h);exact h γ' _ w' (j1.put d (.ref d) _ (by simp only[CR,j2];exact⟨trivial,none,0,0,qh.1⟩)) ⟨sJ.refl _ _ _,λx _=>by rw[j3,e1.β],λg=>by rw[j4];exact e1.h g,.put⟩
    ·rw[qh.1]at h1;cases h1
    ·simp only[bm,ao]at h2 h8 ⊢;obtain⟨γ',j1,j2,j3,j4⟩:=i1.newRow h5 h6 (n:=es.length) (c:=cap) h4 r2 h8 rfl h2 h3 h7 tH hk2 hf2 e1 d;exact h γ' _ w' (j1.put d (.ref d) _ (by simp only[CR,j2];exact⟨trivial,_,_,_,rfl⟩)) ⟨jS hi h5 _,λx _=>by rw[j3,e1.β],λg=>aA (e1.h g) (j4 g),.put⟩
   ·cases he
  ·rename_i r I5;rw[I5]at qh;simp only[CR]at qh
   split at he
   ·rename_i row hl
    split at he
    ·rename_i hc;obtain⟨rfl,rfl,qU,c3,c4⟩:=hc;simp only[aa]at he;subst he;obtain⟨lN,A,n,c,i2,b2,yc,n4,o2,l2,q1,q2,q3,q4,q5,q6,q7,q8⟩:=i1.th hl;rw[e1.sl]at q1;have n6:(fr f N).eval x=.slice A n c:=qh.1.trans q1;have hrX:r∈dW s (some d) (.app row.k by_ row.fl a b):=by simp[dW,I5,rowsOf]
     have Ah:∀e∈row.es++es,e.length=row.k:=λe he=>by
      rcases aM.1 he with he|he
      ·exact q6 e he
      ·exact hk2 e he
     have Uu:row.fl=true->flat (row.es++es):=λhf e he=>by
      rcases aM.1 he with he|he
      ·exact q7 hf e he
      ·exact hf2 hf e he
     have U9:∀g,B2 pc w g->B2 lN w g:=λg hg=>⟨by rw[o2 _ (by rw[hg.1];simp)];exact hg.1,by rw[n4];exact hg.2.1,hg.2.2⟩
     rcases q8 with ⟨rfl,rfl⟩|⟨g,o,xs,G,rfl,a2,a3,a4,a5,a6,a7,a8,a9,sL,B9,a12⟩
     ·
      have Ai:n=0:=by omega
      subst Ai;have hre:row.es=[]:=bU q2.symm;obtain⟨v',w',hr,yr⟩:=FO (P:=P) (w:=w) (ty:=ty) (k:=row.k) (by_:=by_) hU hI hz mE XY Yo tH (v:=(fr f N).eval x) (n:=0) (xs:=[]) (by simp) (.inl ⟨n6,rfl⟩) (u:=(fr f N).eval y) (m:=es.length) NC hu vU (by omega) (by rw[hre]at c3;simpa using c3);refine so (lQ hr) ?_;rcases yr with ⟨h1,rfl,rfl⟩|⟨g,cap,T',cur,h1,_⟩|⟨cap,cs,rfl,h2,h3,h4,h5,h6,h7,h8⟩
      ·have vT:es=[]:=bU h1;subst vT;have hR:nh lN.h w' {row with es:=row.es++[],deep:=row.deep && dp } ((fr f N).eval x) []:=⟨none,0,0,n6,by simp[hre],aj _,by simp[maxLen],q5,Ah,Uu,.inl ⟨rfl,rfl,rfl⟩⟩
       obtain⟨γ',j1,j2,j3,j4,_⟩:=i2.ry (r:=r) hR (by simp) (λ_ h=>by simp at h);rw[jE]at j1;exact h γ' _ w' (j1.put d (.ref r) _ (by simp only[CR,j2];exact⟨trivial,none,0,0,n6⟩)) ⟨sJ.refl _ _ _,λx _=>by rw[j3,b2,e1.β],λg=>by rw[j4,n4];exact e1.h g,.put⟩
      ·rw[n6]at h1;cases h1
      ·simp only[bm,ao]at h2 h8 ⊢;have i3:=i2.Gj h5;have gD:gy w' w.heap.size 0 news:=by
        intro j u hu;rw[bm,h6.cell];rw[<- h8,dt]at hu
        split at hu
        ·exact hu
        ·cases hu
       have ig:=eH.lt es r2;obtain⟨γ',j1,j2,j3,j4,_⟩:=i3.rH (r:=r) (x:={row with es:=row.es++es,deep:=row.deep && dp }) (n:=es.length) (c:=cap) (g:=w.heap.size) (o:=0) (by simp[hre]) h2 h3 q5 Ah Uu (by omega) (.inr (i2.qD (aj _))) (.inl hi.size) ⟨by omega,h5.KJ _ (aj _)⟩ (by simp only[hre,ao];exact r2.Gj h5) gD (by rw[i2.eN _ (aj _)];omega) (λ_=>i2.eN _ (aj _)) (λ_=>⟨rfl,E,cs,h6,h7⟩)
        (λbe hb=>by
         rcases e1.some_ be hb with h9|h9
         ·exact .inl (by rw[n4];exact h9)
         ·have:=U9 _ h9;exact .inr ⟨⟨this.1,this.2.1,(jS hi h5 (λ_=>False)).eX _ this.2.2⟩,by have:=ig be hb;omega⟩)
        (λhd=>by
         have Ws:dp=true:=by
          have hd':(row.deep && dp)=true:=hd;simp at hd';exact hd'.2
         obtain⟨n1,l1⟩:=e1.deep Ws;refine⟨cd.2 ⟨λhm=>?_,n1⟩,λbe hb=>?_⟩
         ·obtain⟨be,hb,e⟩:=bQ.1 hm;have:=ig be hb;omega
         ·have:=U9 _ (l1 be hb).1;exact⟨this.1,this.2.1,(jS hi h5 (λ_=>False)).eX _ this.2.2⟩)
       rw[jE]at j1;exact h γ' _ w' (j1.put d (.ref r) _ (by simp only[CR,j2];exact⟨trivial,_,_,_,rfl⟩)) ⟨jS hi h5 _,λx _=>by rw[j3,b2,e1.β],λg=>by have:=j4 g;rw[n4]at this;exact aA (e1.h g) this,.put⟩
     ·obtain⟨rfl,T',vs,hB,HF⟩:=sL qU;have UG:xs.length=n * row.k:=by rw[eH.length _ a6 q6,q2]
      have WH:vs.take (n * row.k)=xs:=by
       rw[<- UG]
       apply ed
       intro j;rw[dt];by_cases hj:j < xs.length
       ·rw[if_pos hj];have h7:=a7 j xs[j] (by simp[hj]);rw[bm,hB.cell]at h7;rw[h7];simp[hj]
       ·rw[if_neg hj,jN (by omega)]
      have aiF:=eH.lt _ a6;have abx:=eH.lt _ r2;obtain⟨v',w',hr,yr⟩:=FO (P:=P) (w:=w) (ty:=ty) (k:=row.k) (by_:=by_) hU hI hz mE XY Yo tH (v:=(fr f N).eval x) (n:=n) (xs:=xs) UG (.inr ⟨g,c,T',vs,n6,hB,q3,q4,HF,WH⟩) (u:=(fr f N).eval y) (m:=es.length) NC hu vU (by omega) (by rw[q2];exact c3);have Rb:γ.ω g=.row r:=by
       rcases e1.own g with h|h|h
       ·rw[<- h];exact a3
       ·rw[a3]at h;cases h
       ·rw[a3]at h;cases h
      have hrE:eH w (row.es++es) (xs++news) (G++G2):=eH.append _ a6 r2;have IA:∀be∈G++G2,be.2<=lN.h be.1\/(B2 lN w be.1/\be.1≠g):=by
       intro be hb;rcases aM.1 hb with hb|hb
       ·rw[n4];exact B9 be hb
       ·rcases e1.some_ be hb with h9|h9
        ·exact .inl (by rw[n4];exact h9)
        ·exact .inr ⟨U9 _ h9,λe=>by have:=h9.1;rw[e,a3]at this;cases this⟩
      have CN:(row.deep && dp)=true->(g::(G++G2).map bG).Nodup/\∀be∈G++G2,B2 lN w be.1:=by
       intro hd;rw[ab]at hd;obtain⟨n1,l1⟩:=e1.deep hd.2;obtain⟨n2,NT⟩:=a12 hd.1;refine⟨?_,λbe hb=>?_⟩
       ·rw[dd,<- ai,bj];refine⟨n2,n1,?_⟩;intro y hy y' NM e;subst e;obtain⟨TY,yo,e8⟩:=bQ.1 NM;have u2:=(l1 TY yo).1.1;rcases ay.1 hy with rfl|hy
        ·rw[e8,a3]at u2;cases u2
        ·obtain⟨be,hb,rfl⟩:=bQ.1 hy;rw[e8,(NT be hb).2]at u2;cases u2
       ·rcases aM.1 hb with hb|hb
        ·exact (NT be hb).1
        ·exact U9 _ (l1 be hb).1
      refine so (lQ hr) ?_;rcases yr with ⟨h1,rfl,rfl⟩|⟨g',cap,GC,cur,h1,h2,h3,h4,h5,h6,h7,rfl⟩|⟨cap,cs,rfl,h2,h3,h4,h5,h6,h7,h8⟩
      ·have vT:es=[]:=bU h1;subst vT;simp only[eH]at r2;obtain⟨rfl,rfl⟩:=r2;simp only[aG]at hrE IA CN Ah Uu;obtain⟨γ',j1,j2,j3,j4,_⟩:=i2.rH (r:=r) (x:={row with es:=row.es++[],deep:=row.deep && dp }) (n:=n) (c:=c) (g:=g) (o:=0) (by simp[q2]) q3 q4 q5 (by simpa using Ah) (by simpa using Uu) a2 (.inl a4) (i2.own g (by rw[a4];simp)).2 a5 (by simpa using hrE) a7 (by rw[n4];exact a8) (λhf=>by rw[n4];exact a9 hf) (λ_=>⟨rfl,T',vs,hB,HF⟩) IA CN;rw[jE]at j1;exact h γ' _ w' (j1.put d (.ref r) _ (by simp only[CR,j2,n6];exact⟨trivial,_,_,_,rfl⟩)) ⟨sJ.refl _ _ _,λx _=>by rw[j3,b2,e1.β],λg=>by have:=j4 g;rw[n4]at this;exact aA (e1.h g) this,.put⟩
      ·rw[n6]at h1;simp only[Value.slice.injEq,aa,Addr.mk.injEq,and_true]at h1;obtain⟨rfl,_,rfl⟩:=h1;subst h3;have LH:cur=vs:=by
        unfold kW at h2 hB;rw[hB]at h2;simp only[aa,Obj.cells.injEq,and_true]at h2;have:=h2.1
        simpa using this.symm
       subst LH;have lh:=TD.gk w g (cZ cur (n * row.k) news).toArray GC;have wG:n * row.k+news.length<=cur.length:=by rw[NC,HF,<- uK];exact ew _ h4
       have JM:∀j,j < n * row.k->(gk w g (.cells (cZ cur (n * row.k) news).toArray GC (0,0))).cell? ⟨g,j,none⟩=w.cell? ⟨g,j,none⟩:=by
        intro j hj;rw[(hB.ky GC (cZ cur (n * row.k) news)).cell,hB.cell];unfold cZ;rw[bh,cl (by simp;omega),dt,if_pos hj]
       have i3:=i2.M7 (l6 i2 lh (M:=λo=>o=.db) a4 (λj hj=>JM j (by rw[n4]at hj;omega))) (by simp) (λb hb=>by cases hb) (λr hr=>by cases hr);have mM:sJ γ (λo=>∃i∈dW s (some d) (.app row.k by_ row.fl a b),o=.box i\/o=.row i) w _:=l6 hi lh ⟨r,hrX,.inr Rb⟩ (λj hj=>JM j (by have:=e1.h g;omega));have agV:eH (gk w g (.cells (cZ cur (n * row.k) news).toArray GC (0,0))) (row.es++es) (xs++news) (G++G2):=by
        refine hrE.cH _ λbe hb j hj=>?_;by_cases h8:be.1=g
        ·rw[h8];rcases IA be hb with h9|h9
         ·rw[h8,n4]at h9;exact JM j (by omega)
         ·exact absurd h8 h9.2
        ·exact World.cell?_of_block (w:=w) (lh.block _ h8)
       have gD:gy (gk w g (.cells (cZ cur (n * row.k) news).toArray GC (0,0))) g 0 (xs++news):=by
        have h9:=(hB.ky GC (cZ cur (n * row.k) news)).J0;intro j u hu;refine h9 j u ?_;have e5:cZ cur (n * row.k) news=(xs++news)++cur.drop (n * row.k+news.length):=by unfold cZ;rw[WH]
        rw[e5,cl (aI.1 hu).1];exact hu
       have IJ:∀y,mJ w y->mJ (gk w g (.cells (cZ cur (n * row.k) news).toArray GC (0,0))) y:=mM.eX;obtain⟨γ',j1,j2,j3,j4,_⟩:=i3.rH (r:=r) (x:={row with es:=row.es++es,deep:=row.deep && dp }) (n:=n+es.length) (c:=c) (g:=g) (o:=0) (by simp[q2]) h4 q4 q5 Ah Uu (by rw[fG];exact a2) (.inl a4) (i2.own g (by rw[a4];simp)).2 ⟨by rw[fG];omega,lh.fz⟩ agV gD (by rw[n4];exact aA a8 (Nat.add_le_add_left (ew row.k (show n<=n+es.length by omega)) 0)) (λhf=>by rw[n4];exact a9 hf) (λ_=>⟨rfl,GC,_,hB.ky GC _,by rw[uA wG];exact HF⟩)
        (λbe hb=>by
         rcases IA be hb with h9|h9
         ·exact .inl h9
         ·exact .inr ⟨⟨h9.1.1,h9.1.2.1,IJ _ h9.1.2.2⟩,h9.2⟩)
        (λhd=>⟨(CN hd).1,λbe hb=>by have:=(CN hd).2 be hb;exact⟨this.1,this.2.1,IJ _ this.2.2⟩⟩)
       rw[jE]at j1;exact h γ' _ _ (j1.put d (.ref r) _ (by simp only[CR,j2];exact⟨trivial,_,_,_,rfl⟩)) ⟨mM,λx _=>by rw[j3,b2,e1.β],λg=>by have:=j4 g;rw[n4]at this;exact aA (e1.h g) this,.put⟩
      ·have i3:=i2.Gj h5;have gD:gy w' w.heap.size 0 (xs++news):=by
        intro j u hu;rw[bm,h6.cell];rw[<- h8,dt]at hu
        split at hu
        ·exact hu
        ·cases hu
       have ig:∀be∈G++G2,be.1 < w.heap.size:=eH.lt _ hrE;have IJ:=(jS hi h5 (λ_=>False)).eX;obtain⟨γ',j1,j2,j3,j4,_⟩:=i3.rH (r:=r) (x:={row with es:=row.es++es,deep:=row.deep && dp }) (n:=n+es.length) (c:=cap) (g:=w.heap.size) (o:=0) (by simp[q2]) h2 h3 q5 Ah Uu (by omega) (.inr (i2.qD (aj _))) (.inl hi.size) ⟨by omega,h5.KJ _ (aj _)⟩ (hrE.Gj h5) gD (by rw[i2.eN _ (aj _)];omega) (λ_=>i2.eN _ (aj _)) (λ_=>⟨rfl,E,cs,h6,h7⟩)
        (λbe hb=>by
         rcases IA be hb with h9|h9
         ·exact .inl h9
         ·exact .inr ⟨⟨h9.1.1,h9.1.2.1,IJ _ h9.1.2.2⟩,by have:=ig be hb;omega⟩)
        (λhd=>by
         refine⟨cd.2 ⟨λhm=>?_,(cd.1 (CN hd).1).2⟩,λbe hb=>by have:=(CN hd).2 be hb;exact⟨this.1,this.2.1,IJ _ this.2.2⟩⟩;obtain⟨be,hb,e⟩:=bQ.1 hm;have:=ig be hb;omega)
       rw[jE]at j1;exact h γ' _ w' (j1.put d (.ref r) _ (by simp only[CR,j2];exact⟨trivial,_,_,_,rfl⟩)) ⟨jS hi h5 _,λx _=>by rw[j3,b2,e1.β],λg=>by have:=j4 g;rw[n4]at this;exact aA (e1.h g) this,.put⟩
    ·cases he
   ·cases he
  ·cases he
theorem acg(hi:Inv γ h0 io w0 s f w){T E:TypeId}{k:Nat}{x:Operand}{lo oU:Option Operand}{a:KX}{b c:Option KX}{d:Nat}(hU:P.underlying T=some (.slice E))(hz:mB P E=some k)
  (hx:jo N x a=true) (I3:yv N lo b=true) (Wv:yv N oU c=true) (he:kc cf mf s (some d) (.cut k a b c)=some s') (h:∀γ' f' w',Inv γ' h0 io w0 s' f' w'->Tr (some d) (dW s (some d) (.cut k a b c)) γ w γ' w' f f'->K f' w') :
  rf P N ⟨some d,.slice T x lo oU none,ty,pos,aft,gd⟩ f w K:=by
 have qh:=bH hi hx;simp only[kc]at he
 split at he
 ·rename_i k' fl I5;rw[I5]at qh;simp only[CR]at qh
  split at he
  ·rename_i l u hl hu
   split at he
   ·rename_i hc;obtain⟨rfl,rfl,rfl⟩:=hc;simp only[aa]at he;subst he;have hr:=BU (w:=w) (dst:=some d) (ty:=ty) (pos:=pos) (aft:=aft) (gd:=gd) hU (λw=>run_sizeOf hz w) qh.1 (my hi I3 hl) (my hi Wv hu) (aj _) (aj _);refine so hr ?_;exact h γ _ w (hi.put d (.nil k' fl) _ (by simp only[CR];simp[qh.2])) ⟨sJ.refl _ _ _,λ_ _=>rfl,λ_=>aj _,.put⟩
   ·cases he
  ·cases he
 ·rename_i r I5;rw[I5]at qh;simp only[CR]at qh
  split at he
  ·rename_i row hl
   split at he
   ·rename_i l u abw abr
    split at he
    ·rename_i hc;obtain⟨rfl,c1,c2,Gn⟩:=hc;simp only[aa]at he;subst he;obtain⟨lN,A,n,c,i2,b2,yc,n4,o2,l2,q1,q2,q3,q4,q5,q6,q7,q8⟩:=hi.th hl;have n6:(fr f N).eval x=.slice A n c:=qh.1.trans q1;have hr:=BU (w:=w) (dst:=some d) (ty:=ty) (pos:=pos) (aft:=aft) (gd:=gd) hU (λw=>run_sizeOf hz w) n6 (my hi I3 abw) (by rw[q2];exact my hi Wv abr) c1 (by omega);have hlen:((row.es.take u).drop l).length=u - l:=by simp;omega
     have tu:∀e∈(row.es.take u).drop l,e∈row.es:=λe he=>bN (iB he);have Ah:∀e∈(row.es.take u).drop l,e.length=row.k:=λe he=>q6 e (tu e he);have Uu:row.fl=true->flat ((row.es.take u).drop l):=λhf e he=>q7 hf e (tu e he);refine so hr ?_;rcases q8 with ⟨rfl,rfl⟩|⟨g,o,xs,G,rfl,a2,a3,a4,a5,a6,a7,a8,a9,sL,B9,a12⟩
     ·have hu0:u=0:=by omega
      subst hu0;have JP:l=0:=by omega
      subst JP;have hR:nh lN.h w {row with es:=(row.es.take 0).drop 0,app:=row.app && b.isNone } (.slice none 0 0) []:=⟨none,0,0,rfl,by simp,aj _,by simp[maxLen],q5,Ah,Uu,.inl ⟨rfl,rfl,rfl⟩⟩
      obtain⟨γ',j1,j2,j3,j4,_⟩:=i2.ry (r:=r) hR (by simp) (λ_ h=>by simp at h);rw[jE]at j1;exact h γ' _ w (j1.put d (.ref r) _ (by simp only[CR,j2];simp)) ⟨sJ.refl _ _ _,λx _=>by rw[j3,b2],λg=>by rw[j4,n4];exact aj _,.put⟩
     ·rw[<- bc u row.es]at a6;obtain⟨v1,v2,F1,F2,rfl,rfl,k1,_⟩:=eH.fy _ a6;rw[<- bc l (row.es.take u)]at k1;obtain⟨u1,u2,G1,G2,rfl,rfl,m1,m2⟩:=eH.fy _ k1;have Yl:u1.length=l * row.k:=by
       rw[eH.length _ m1 (λe he=>q6 e (bN (bN he)))];simp only[a_];rw[dT (by rw[dT (by omega)];exact c1)]
      have gD:gy w g (if c=l then o else o+l * row.k) u2:=by
       intro j y hy;split
       ·rename_i ri;have:u2.length=0:=by
         rw[eH.length _ m2 Ah,hlen,show u - l=0 by omega,oN]
        have:=(aI.1 hy).1;omega
       ·have:=a7 (l * row.k+j) y (by
         rw[bh,cr (by omega),Yl,lJ,cl (aI.1 hy).1];exact hy)
        rw[show o+(l * row.k+j)=o+l * row.k+j by omega]at this;exact this
      have ub:∀be∈G2,be∈G1++G2++F2:=λbe hb=>by simp[hb]
      obtain⟨γ',j1,j2,j3,j4,_⟩:=i2.rH (r:=r) (x:={row with es:=(row.es.take u).drop l,app:=row.app && b.isNone }) (n:=u - l) (c:=c - l) (g:=g) (o:=if c=l then o else o+l * row.k) hlen.symm (by omega) (by omega) q5 Ah Uu a2 (.inl a4) (i2.own g (by rw[a4];simp)).2 a5 m2 gD (by rw[n4,a9 Gn];omega) (λ_=>by rw[n4];exact a9 Gn)
       (λqU=>by
        simp only[ab,po]at qU;have hb0:l=0:=by
         have:=abw;rw[qU.2]at this;simp only[pM,aa]at this;exact this.symm
        obtain⟨p1,p2⟩:=sL qU.1;subst hb0;refine⟨by simp[p1],?_⟩
        simpa using p2)
       (λbe hb=>by rw[n4];exact B9 be (ub be hb))
       (λhd=>by
        obtain⟨d1,d2⟩:=a12 hd;refine⟨?_,λbe hb=>(d2 be (ub be hb)).1⟩;rw[cd]at d1 ⊢;refine⟨λhm=>d1.1 ?_,?_⟩
        ·obtain⟨be,hb,e⟩:=bQ.1 hm;exact bQ.2 ⟨be,ub be hb,e⟩
        ·have:=d1.2;rw[dd,dd,bj,bj]at this;exact this.1.2.1)
      rw[jE]at j1;have hv:(Value.slice (if c=l then some ⟨g,o,none⟩ else (some (⟨g,o,none⟩:Addr)).map (λz=>z.add (l * row.k))) (u - l) (c - l))=.slice (some ⟨g,if c=l then o else o+l * row.k,none⟩) (u - l) (c - l):=by
       split<;>simp[nI]
      rw[hv];exact h γ' _ w (j1.put d (.ref r) _ (by simp only[CR,j2];exact⟨trivial,_,_,_,rfl⟩)) ⟨sJ.refl _ _ _,λx _=>by rw[j3,b2],λg=>by have:=j4 g;rw[n4]at this;exact this,.put⟩
    ·cases he
   ·cases he
  ·cases he
 ·cases he
end
end
section
open Go.RowKit
def Cy(h:Nat->Nat)(w:World):RV->Value->List Nat->Prop
 | .d x,v,F=>F=[]/\∃G,Rp w x v G/\dm h G
 | .row r,v,F=>nh h w r v F/\F.Nodup
def gz(h:Nat->Nat)(w:World):List RV->List Value->List Nat->Prop
 |[],vs,F=>vs=[]/\F=[]
 |r::rs,vs,F=>∃v dZ F1 F2,vs=v::dZ/\F=F1++F2/\Cy h w r v F1/\gz h w rs dZ F2
def AR(h:Nat->Nat)(w:World):A->Value->List Nat->Prop
 | .val ag cs,v,F=>∃vs,gz h w cs vs F/\(ag=true->v=.agg vs.toArray)/\(ag=false->vs=[v])
 | .box cs,v,F=>∃g T vs F',v=.pointer (some ⟨g,0,none⟩)/\kW w g T vs/\h g=0/\F=g::F'/\gz h w cs vs F'
def kF(h:Nat->Nat)(w:World):List A->List Value->List Nat->Prop
 |[],vs,F=>vs=[]/\F=[]
 |a::as,vs,F=>∃v dZ F1 F2,vs=v::dZ/\F=F1++F2/\AR h w a v F1/\kF h w as dZ F2
structure xH (h:Nat->Nat) (F:List Nat) (w w':World) (h':Nat->Nat):Prop where
 os:w'.os=w.os
 tape:w'.tape=w.tape
 output:w'.output=w.output
 size:w.heap.size<=w'.heap.size
 block:∀g,g < w.heap.size->g∉F->w'.heap[g]?=w.heap[g]?
 cell:∀g j,g < w.heap.size->j < h g->w'.cell? ⟨g,j,none⟩=w.cell? ⟨g,j,none⟩
 mono:∀g,g < w.heap.size->h g<=h' g
 hold:∀g,g < w.heap.size->g∉F->h' g=h g
 eN:∀g,w'.heap.size<=g->h' g=0
 eX:∀g,mJ w g->mJ w' g
def fU:List A->List Value->List Value
 | .box _::as,v::vs=>v::fU as vs
 | .val _ _::as,_::vs=>fU as vs
 |_,_=>[]
def TW(us:List Value)(v:Value):Prop:=us=[v]\/(us.length≠1/\v=.tuple us.toArray)
def zk:String:= "internal/strconv.uint64pow10"
def OU(P:Program)(w:World)(F:List Nat):Prop:=∀g,P.globalNamed zk=some g->g < w.heap.size/\g∉F/\Lib.TabIs P w zk .u64 Lib.pow10Tab
theorem OU.step{P:Program}{w w':World}{F F':List Nat}(h:OU P w F)(hs:w.heap.size<=w'.heap.size)(hfr:∀g,g < w.heap.size->g∉F->w'.heap[g]?=w.heap[g]?)(hF:∀g∈F',w.heap.size<=g\/g∈F):OU P w' F':=by
 intro g hg;obtain⟨a,b,c⟩:=h g hg;refine⟨by omega,λhm=>?_,?_⟩
 ·rcases hF g hm with h1|h1
  ·omega
  ·exact b h1
 ·unfold Lib.TabIs World.var? at c ⊢;rw[hg]at c ⊢;simp only[cO]at c ⊢;rw[hfr g a b];exact c
def Pb(P:Program)(g:FuncId)(as rs outs:List A)(w:World)(h:Nat->Nat)(vs:List Value)(F:List Nat):Prop:=
 kF h w as vs F->F.Nodup->(∀g∈F,g < w.heap.size)->(∀g,w.heap.size<=g->h g=0)->
  Calls P g vs.toArray w λe w'=>∃v us F1 F2 h',e=.returned v/\TW us v/\kF h' w' rs us F1/\kF h' w' outs (fU as vs) F2/\(F1++F2).Nodup/\(∀g∈F1++F2,(w.heap.size<=g\/g∈F)/\g < w'.heap.size)/\xH h F w w' h'
def mI(P:Program)(g:FuncId)(as rs outs:List A):Prop:=
 ∀(w:World) (h:Nat->Nat) (vs:List Value) (F:List Nat),OU P w F->Pb P g as rs outs w h vs F
def tL(w0:World)(io:List Nat)(P:Program)(g:FuncId)(as rs outs:List A):Prop:=
 ∀(w:World) (h:Nat->Nat) (vs:List Value) (F:List Nat),w0.heap.size<=w.heap.size->(∀g,g < w0.heap.size->g∉io->w.heap[g]?=w0.heap[g]?)->(∀g∈F,w0.heap.size<=g\/g∈io)->Pb P g as rs outs w h vs F
theorem mI.at_{P:Program}{g:FuncId}{as rs outs:List A}{w0:World}{io:List Nat}(h:mI P g as rs outs)(hL:OU P w0 io):tL w0 io P g as rs outs:=
 λw k vs F h1 h2 h3=>h w k vs F (hL.step h1 h2 h3)
def fQ(w:World):List D->List Value->List Fp->Prop
 |[],vs,Fs=>vs=[]/\Fs=[]
 |d::ds,vs,Fs=>∃v dZ F TC,vs=v::dZ/\Fs=F::TC/\Rp w d v F/\fQ w ds dZ TC
def Pd(P:Program)(F0:FuncId)(ag:Bool)(ds:List D)(q:Int)(ga:List D)(q':Int)(w:World)(h:Nat->Nat)(v:Value)(vs:List Value)(Fs:List Fp):Prop:=
 fQ w ds vs Fs->(ag=true->v=.agg vs.toArray)->(ag=false->vs=[v])->IntKind.i64.wrap q=q->(Fs.flatten.map bG).Nodup->(∀G∈Fs,∀be∈G,h be.1=0/\mJ w be.1)->(∀g,w.heap.size<=g->h g=0)->
  Calls P F0 #[v,.int .i64 q] w λe w'=>e=.returned (.int .i64 q')/\IntKind.i64.wrap q'=q'/\fQ w' ga vs Fs/\ga.map D.plain=ds.map D.plain/\xH h (Fs.flatten.map bG) w w' h
def zr(P:Program)(F0:FuncId)(ag:Bool)(ds:List D)(q:Int)(ga:List D)(q':Int):Prop:=
 ∀(w:World) (h:Nat->Nat) (v:Value) (vs:List Value) (Fs:List Fp),OU P w (Fs.flatten.map bG)->Pd P F0 ag ds q ga q' w h v vs Fs
def oO(w0:World)(io:List Nat)(P:Program)(F0:FuncId)(ag:Bool)(ds:List D)(q:Int)(ga:List D)(q':Int):Prop:=
 ∀(w:World) (h:Nat->Nat) (v:Value) (vs:List Value) (Fs:List Fp),w0.heap.size<=w.heap.size->(∀g,g < w0.heap.size->g∉io->w.heap[g]?=w0.heap[g]?)->(∀g∈Fs.flatten.map bG,w0.heap.size<=g\/g∈io)->Pd P F0 ag ds q ga q' w h v vs Fs
theorem zr.at_{P:Program}{F0:FuncId}{ag:Bool}{ds ga:List D}{q q':Int}{w0:World}{io:List Nat}(h:zr P F0 ag ds q ga q')(hL:OU P w0 io):oO w0 io P F0 ag ds q ga q':=
 λw k v vs Fs h1 h2 h3=>h w k v vs Fs (hL.step h1 h2 h3)
theorem Kj{d j i:Nat}(h:j≠i):tB d j≠tB d i:=by unfold tB;omega
section
variable {h0:Nat->Nat} {io:List Nat} {w0:World} {f:Fm} {w:World}
theorem Inv.Vs{γ:Gh}{s:St}(hi:Inv γ h0 io w0 s f w)(d:Nat)(c:C)(hc:CR γ w c (f d)):Inv γ h0 io w0 (s.put (some d) c) f w:=
 {hi with
  sl:=λe c' h=>by
   simp only[St.put,look]at h;by_cases he:d=e
   ·subst he;simp at h;subst h;exact hc
   ·rw[if_neg he]at h;exact hi.sl e c' h }
theorem nh.slice{h:Nat->Nat}{x:Row}{v:Value}{F:List Nat}(hr:nh h w x v F):∃A n c,v=.slice A n c:=by
 obtain⟨A,n,c,h1,_⟩:=hr;exact⟨A,n,c,h1⟩
theorem mo{d:Nat}:∀(vs:List RV) {us:List Value} {F:List Nat} (j:Nat) {γ:Gh} {s:St},Inv γ h0 io w0 s f w->gz γ.h w vs us F->F.Nodup->(∀g∈F,(γ.ω g=.free\/γ.ω g=.db)/\g < w.heap.size/\(w0.heap.size<=g\/g∈io))->
  ∃γ',Inv γ' h0 io w0 (dU d j vs s).2 f w/\dR γ' w (dU d j vs s).1 us/\γ'.β=γ.β/\γ'.h=γ.h/\(∀g,g∉F->γ'.ω g=γ.ω g)/\∀q,(∀i,j<=i->q≠tB d i)->γ'.sl q=γ.sl q
 |[],us,F,j,γ,s,hi,hr,_,_=>by
  simp only[gz]at hr;obtain⟨rfl,rfl⟩:=hr;exact⟨γ,hi,by simp[dU,dR],rfl,rfl,λ_ _=>rfl,λ_ _=>rfl⟩
 | .d x::vs,us,F,j,γ,s,hi,hr,jm,hF=>by
  simp only[gz,Cy]at hr;obtain⟨v,dZ,F1,F2,rfl,rfl,⟨rfl,G,uJ,jV⟩,hr⟩:=hr;obtain⟨γ',i1,c1,b1,h1,o1,s1⟩:=mo vs (j+1) hi hr (by simpa using jm) (by simpa using hF);refine⟨γ',i1,?_,b1,h1,by simpa using o1,λq hq=>s1 q (λi hi=>hq i (by omega))⟩;simp only[dU,dR];exact⟨v,dZ,rfl,by simp only[CR];exact⟨G,uJ,by rw[h1];exact jV⟩,c1⟩
 | .row x::vs,us,F,j,γ,s,hi,hr,jm,hF=>by
  simp only[gz,Cy]at hr;obtain⟨v,dZ,F1,F2,rfl,rfl,⟨hR,vU⟩,hr⟩:=hr;rw[bj]at jm;obtain⟨_,JR,qV⟩:=jm;obtain⟨pc,i1,VJ,b1,h1,o1,q1⟩:=hi.ry (r:=tB d j) hR vU (λg hg=>by
   have:=hF g (by simp[hg]);exact⟨by rcases this.1 with h|h<;>simp[h],this.2⟩)
  obtain⟨lN,i2,c2,b2,h2,o2,s2⟩:=mo vs (j+1) i1 (by rw[h1];exact hr) JR (λg hg=>by
   have h3:g∉F1:=λh=>qV g h g hg rfl;rw[o1 g h3];exact hF g (by simp[hg]))
  refine⟨lN,i2,?_,b2.trans b1,h2.trans h1,λg hg=>?_,λq hq=>?_⟩
  ·simp only[dU,dR];refine⟨v,dZ,rfl,?_,c2⟩;simp only[CR];rw[s2 (tB d j) (λi hi=>Kj (by omega)),VJ];exact⟨rfl,hR.slice⟩
  ·simp only[aM,not_or]at hg;rw[o2 g hg.2,o1 g hg.1]
  ·rw[s2 q (λi hi=>hq i (by omega)),q1 q (hq j (aj _))]
theorem qi{d:Nat}:∀(vs:List RV) {us:List Value} {F:List Nat} (j:Nat) {γ:Gh} {s:St},Inv γ h0 io w0 s f w->gz γ.h w vs us F->F.Nodup->(∀g∈F,(γ.ω g=.free\/γ.ω g=.db)/\g < w.heap.size/\(w0.heap.size<=g\/g∈io))->
  ∃γ',Inv γ' h0 io w0 (dU d j vs s).2 f w/\(∀lN,lN.h=γ'.h->(∀i,j<=i->i < j+vs.length->lN.sl (tB d i)=γ'.sl (tB d i))->dR lN w (dU d j vs s).1 us)/\γ'.β=γ.β/\γ'.h=γ.h/\(∀g,g∉F->γ'.ω g=γ.ω g)/\∀q,(∀i,j<=i->q≠tB d i)->γ'.sl q=γ.sl q
 |[],us,F,j,γ,s,hi,hr,_,_=>by
  simp only[gz]at hr;obtain⟨rfl,rfl⟩:=hr;exact⟨γ,hi,λ_ _ _=>by simp[dU,dR],rfl,rfl,λ_ _=>rfl,λ_ _=>rfl⟩
 | .d x::vs,us,F,j,γ,s,hi,hr,jm,hF=>by
  simp only[gz,Cy]at hr;obtain⟨v,dZ,F1,F2,rfl,rfl,⟨rfl,G,uJ,jV⟩,hr⟩:=hr;obtain⟨γ',i1,c1,b1,h1,o1,s1⟩:=qi vs (j+1) hi hr (by simpa using jm) (by simpa using hF);refine⟨γ',i1,λlN e1 e2=>?_,b1,h1,by simpa using o1,λq hq=>s1 q (λi hi=>hq i (by omega))⟩;simp only[dU,dR];exact⟨v,dZ,rfl,by simp only[CR];exact⟨G,uJ,by rw[e1,h1];exact jV⟩,c1 lN e1 (λi h2 h3=>e2 i (by omega) (by simp;omega))⟩
 | .row x::vs,us,F,j,γ,s,hi,hr,jm,hF=>by
  simp only[gz,Cy]at hr;obtain⟨v,dZ,F1,F2,rfl,rfl,⟨hR,vU⟩,hr⟩:=hr;rw[bj]at jm;obtain⟨_,JR,qV⟩:=jm;obtain⟨pc,i1,VJ,b1,h1,o1,q1⟩:=hi.ry (r:=tB d j) hR vU (λg hg=>by
   have:=hF g (by simp[hg]);exact⟨by rcases this.1 with h|h<;>simp[h],this.2⟩)
  obtain⟨lN,i2,c2,b2,h2,o2,s2⟩:=qi vs (j+1) i1 (by rw[h1];exact hr) JR (λg hg=>by
   have h3:g∉F1:=λh=>qV g h g hg rfl;rw[o1 g h3];exact hF g (by simp[hg]))
  refine⟨lN,i2,λMZ e1 e2=>?_,b2.trans b1,h2.trans h1,λg hg=>?_,λq hq=>?_⟩
  ·simp only[dU,dR];refine⟨v,dZ,rfl,?_,c2 MZ e1 (λi h2 h3=>e2 i (by omega) (by simp;omega))⟩;simp only[CR];rw[e2 j (aj _) (by simp),s2 (tB d j) (λi hi=>Kj (by omega)),VJ];exact⟨rfl,hR.slice⟩
  ·simp only[aM,not_or]at hg;rw[o2 g hg.2,o1 g hg.1]
  ·rw[s2 q (λi hi=>hq i (by omega)),q1 q (hq j (aj _))]
theorem gz.length{h:Nat->Nat}:∀{vs:List RV} {us:List Value} {F:List Nat},gz h w vs us F->us.length=vs.length
 |[],_,_,hr=>by simp only[gz]at hr;simp[hr.1]
 |_::_,_,_,hr=>by
  simp only[gz]at hr;obtain⟨v,dZ,F1,F2,rfl,rfl,_,hr⟩:=hr;simp[gz.length hr]
theorem wF{γ:Gh}{cs:List C}{v:Value}(h:dR γ w cs [v]):CR γ w (cs.headD .any) v:=by
 cases cs with
 |nil=>simp[dR]at h
 |cons c cs=>
  simp only[dR]at h;obtain⟨v',dZ,e,h1,_⟩:=h;simp only[bw]at e;rw[e.1];exact h1
theorem Av{p:Nat}:∀(vs:List RV) (j:Nat) (s:St),C.jf (900+p) (dU (p+500) j vs s).1=(dU (p+500) j vs s).1
 |[],j,s=>by simp[dU,C.jf]
 | .d x::vs,j,s=>by simp only[dU,C.jf,C.kill,Av vs (j+1) s]
 | .row x::vs,j,s=>by
  have h:tB (p+500) j≠900+p:=by unfold tB;omega
  simp only[dU,C.jf,C.kill,Av vs (j+1),if_neg h]
theorem rN:∀(as:List A) {vs:List Value} {F:List Nat} (p:Nat) {γ:Gh} {s:St},Inv γ h0 io w0 s f w->kF γ.h w as vs F->F.Nodup->(∀g∈F,(γ.ω g=.free\/γ.ω g=.db)/\g < w.heap.size/\(w0.heap.size<=g\/g∈io))->(∀i v,vs[i]?=some v->f (p+i)=v)->
  ∃γ',Inv γ' h0 io w0 (iD p as s) f w/\γ'.h=γ.h/\(∀q,q < p->γ'.β (900+q)=γ.β (900+q))/\∀i cs g,as[i]?=some (.box cs)->vs[i]?=some (.pointer (some ⟨g,0,none⟩))->γ'.β (900+(p+i))=g
 |[],vs,F,p,γ,s,hi,_,_,_,_=>⟨γ,hi,rfl,λ_ _=>rfl,λi cs g h=>by simp at h⟩
 | .val ag cs::as,vs,F,p,γ,s,hi,hr,jm,hF,hf=>by
  simp only[kF,AR]at hr;obtain⟨v,dZ,F1,F2,rfl,rfl,⟨us,qW,ha,hb⟩,hr⟩:=hr;rw[bj]at jm;obtain⟨vU,JR,qV⟩:=jm;obtain⟨pc,i1,c1,b1,h1,o1,_⟩:=mo (d:=p) cs 0 hi qW vU (λg hg=>hF g (by simp[hg]));have hfp:f p=v:=by simpa using hf 0 v rfl
  have i2:Inv pc h0 io w0 (wm p (.val ag cs) s) f w:=by
   refine i1.Vs p _ ?_;cases ag with
   |true=>
    rw[hfp,ha rfl];simp only[if_true,CR];exact⟨us,rfl,c1⟩
   |false=>
    rw[hfp];simp only[av,if_false];rw[hb rfl]at c1;exact wF c1
  obtain⟨lN,i3,h3,p3,x3⟩:=rN as (p+1) i2 (by rw[h1];exact hr) JR (λg hg=>by
   have h3:g∉F1:=λh=>qV g h g hg rfl;rw[o1 g h3];exact hF g (by simp[hg])) (λi u hu=>by rw[show p+1+i=p+(i+1) from by omega];exact hf (i+1) u (by simpa using hu))
  refine⟨lN,i3,h3.trans h1,λq hq=>by rw[p3 q (by omega),b1],λi iC g hi1 TM=>?_⟩;cases i with
  |zero=>simp at hi1
  |succ i=>
   have:=x3 i iC g (by simpa using hi1) (by simpa using TM);rw[show p+(i+1)=p+1+i from by omega];exact this
 | .box cs::as,vs,F,p,γ,s,hi,hr,jm,hF,hf=>by
  simp only[kF,AR]at hr;obtain⟨v,dZ,F1,F2,rfl,rfl,⟨g,T,us,F',rfl,hB,yP,rfl,qW⟩,hr⟩:=hr;rw[bj]at jm;obtain⟨vU,JR,qV⟩:=jm;obtain⟨hg1,Ya⟩:=cd.1 vU;obtain⟨pc,i1,c1,b1,h1,o1,_⟩:=mo (d:=p+500) cs 0 hi qW Ya (λg hg=>hF g (by simp[hg]));have hfp:=hf 0 _ rfl;rw[eD]at hfp;have Wu:=hF g (by simp);obtain⟨lN,i2,j2,k2,l2,m2,w2⟩:=i1.Jf (b:=900+p) hB (by rw[o1 g hg1];exact Wu.1) Wu.2.2 (by rw[h1];exact yP) c1;rw[Av]at i2;have i3:Inv lN h0 io w0 (wm p (.box cs) s) f w:=i2.Vs p (.ptr (900+p) 0) (by rw[hfp];simp only[CR,j2]);obtain⟨MZ,i4,h4,p4,x4⟩:=rN as (p+1) i3 (by rw[l2,h1];exact hr) JR (λy hy=>by
   have h3:y∉F':=λh=>qV y (by simp[h]) y hy rfl;have h5:y≠g:=λh=>qV y (by simp[h]) y hy rfl;rw[w2 y h5,o1 y h3];exact hF y (by simp[hy])) (λi u hu=>by rw[show p+1+i=p+(i+1) from by omega];exact hf (i+1) u (by simpa using hu))
  refine⟨MZ,i4,h4.trans (l2.trans h1),λq hq=>by rw[p4 q (by omega),k2 _ (by omega),b1],λi iC g' hi1 TM=>?_⟩;cases i with
  |zero=>
   simp at TM;rw[p4 _ (by omega),eD,j2,TM]
  |succ i=>
   have:=x4 i iC g' (by simpa using hi1) (by simpa using TM);rw[show p+(i+1)=p+1+i from by omega];exact this
theorem xC{γ:Gh}{s:St}(hi:Inv γ h0 io w0 s f w):∀(cs:List C) {vs:List Value} {rs:List RV},dR γ w cs vs->fp (iK s) cs=some rs->
  ∃F,gz γ.h w rs vs F/\(∀g∈F,∃r∈rowsOf cs,γ.ω g=.row r)/\((rowsOf cs).Nodup->F.Nodup)
 |[],vs,rs,hc,hm=>by
  simp only[fp,aa]at hm;subst hm;simp only[dR]at hc;subst hc;exact⟨[],by simp[gz],λ_ h=>by simp at h,λ_=>by simp⟩
 |c::cs,vs,rs,hc,hm=>by
  simp only[dR]at hc;obtain⟨v,dZ,rfl,hv,yt⟩:=hc;simp only[fp]at hm
  split at hm
  ·rename_i y hy;simp only[ad]at hm;obtain⟨Cq,hm,rfl⟩:=hm;obtain⟨F,h1,h2,h3⟩:=xC hi cs yt hm;cases c with
   |d x=>
    simp only[iK,aa]at hy;subst hy;simp only[CR]at hv;refine⟨F,?_,by simpa [rowsOf] using h2,by simpa [rowsOf] using h3⟩;simp only[gz,Cy];exact⟨v,dZ,[],F,rfl,rfl,⟨rfl,hv⟩,h1⟩
   |nil k fl=>
    simp only[iK,aa]at hy;subst hy;simp only[CR]at hv;refine⟨F,?_,by simpa [rowsOf] using h2,by simpa [rowsOf] using h3⟩;simp only[gz,Cy];exact⟨v,dZ,[],F,rfl,rfl,⟨⟨none,0,0,hv.1,rfl,aj _,by simp[maxLen],hv.2,λ_ h=>by simp at h,λ_=>jc,.inl ⟨rfl,rfl,rfl⟩⟩,by simp⟩,h1⟩
   |ref r=>
    simp only[iK,ad]at hy;obtain⟨x,hx,rfl⟩:=hy;simp only[CR]at hv;obtain⟨Fr,hR,jm,qM⟩:=hi.rw r x hx;refine⟨Fr++F,?_,λg hg=>?_,λhn=>?_⟩
    ·simp only[gz,Cy];exact⟨v,dZ,Fr,F,rfl,rfl,⟨by rw[hv.1];exact hR,jm⟩,h1⟩
    ·rcases aM.1 hg with hg|hg
     ·exact⟨r,by simp[rowsOf],qM g hg⟩
     ·obtain⟨q,hq,UC⟩:=h2 g hg;exact⟨q,by simp[rowsOf,hq],UC⟩
    ·simp only[rowsOf,cd]at hn;rw[bj];refine⟨jm,h3 hn.2,?_⟩;intro a ha b hb e;subst e;obtain⟨q,hq,UC⟩:=h2 a hb;rw[qM a ha]at UC;cases UC;exact hn.1 hq
   |_=>simp[iK]at hy
  ·cases hm
end
end
section
open Go.RowKit
section
variable {h0:Nat->Nat} {io:List Nat} {w0:World} {f:Fm} {w:World}
theorem yb(s:St)(r:Nat)(x:Row):(s.cM r).setRow r x=s.setRow r x:=by
 simp[St.setRow,St.cM,Dm]
theorem Inv.share1 {γ : Gh} {s : St} (hi : Inv γ h0 io w0 s f w) {r : Nat} {x : Row} (hl : look s.rw r = some x) :
    ∃ γ' G, Inv γ' h0 io w0 (s.setRow r x.share) f w /\ γ'.β = γ.β /\ γ'.sl = γ.sl /\ (∀ g, γ.h g <= γ'.h g) /\ Rp w (.list x.k x.fl x.es) (γ.sl r) G /\ dm γ'.h G /\ ∀ g, γ'.ω g = γ.ω g \/ γ'.ω g = .db \/ γ'.ω g = .free \/ γ'.ω g = .row r := by
  obtain ⟨lN, A, n, c, i2, b2, yc, n4, o2, l2, q1, q2, q3, q4, q5, q6, q7, q8⟩ := hi.th hl
  have acF : ∀ g, lN.ω g = γ.ω g \/ lN.ω g = .db := λg => by
    rcases gp (γ.ω g = .row r) with h | h
    · exact .inr (l2 g h)
    · exact .inl (o2 g h)
  rcases q8 with ⟨rfl, rfl⟩ | ⟨g, o, xs, G, rfl, a2, a3, a4, a5, a6, a7, a8, a9, sL, B9, a12⟩
  · have hR : nh lN.h w x.share (lN.sl r) [] := ⟨none, n, 0, by rw [yc]; exact q1, q2, q3, q4, q5, q6, q7, .inl ⟨rfl, rfl, rfl⟩⟩
    obtain ⟨γ', h2, h3, h4, h5, h6⟩ := i2.setRow (r := r) hR (by simp) (λ_ h => by simp at h)
    rw [yb] at h2
    refine ⟨γ', [], h2, h4.trans b2, h3.trans yc, λg => by rw [h5, n4]; exact aj _, ?_, λ_ h => by simp at h, λg => ?_⟩
    · simp only [Rp]
      exact ⟨none, n, 0, q1, q2, q3, q4, q7, q5, q6, .inl ⟨by omega, trivial⟩⟩
    · rcases h6 g with h | h
      · rw [h]; rcases acF g with h' | h'
        · exact .inl h'
        · exact .inr (.inl h')
      · exact .inr (.inr (.inr h))
  · have i3 := i2.settle (h' := λy => if y = g then o + n * x.k else lN.h y) (ω' := lN.ω) (λy => by
        split
        · rename_i e; subst e; rw [n4]; exact a8
        · exact aj _)
      (λy hy => by
        have e : y = g := by
          rcases gp (y = g) with h | h
          · exact h
          · exact absurd (by simp [h]) hy
        subst e
        have ho := i2.own y (by rw [a4]; simp)
        exact ⟨ho.1, ho.2, λ_ _ _ => by rw [a4]; simp, λ_ _ _ => by rw [a4]; simp⟩)
      (λy => .inl rfl)
      (λy b hy => by
        by_cases e : y = g
        · subst e; rw [a4] at hy; cases hy
        · simp only [if_neg e]; exact i2.lI y b hy)
    have ag7 : ∀ y, y ≠ g -> B2 lN w y -> B2 { lN with h := λy => if y = g then o + n * x.k else lN.h y, ω := lN.ω } w y := λy hy hL => ⟨hL.1, by simp only [if_neg hy]; exact hL.2.1, hL.2.2⟩
    obtain ⟨V6, i4, s4, b4, m4, g4, w4⟩ := i3.sM (r := r) (x := x.share) (n := n) (c := c) (g := g) (o := o) q2 q3 q4 q5 q6 q7 a2 (.inl a4) (i2.own g (by rw [a4]; simp)).2 a5 a6 a7 (by simp only [if_true]; exact aj _) (λh => by cases h) sL
      (λbe hb => by
        rcases B9 be hb with h | ⟨h, iQ⟩
        · by_cases e : be.1 = g
          · simp only [if_pos e]
            rw [e] at h
            exact .inl (aA h a8)
          · simp only [if_neg e]
            rw [n4]; exact .inl h
        · exact .inr ⟨ag7 _ iQ h, iQ⟩)
      (λhf => by
        have : G = [] := a6.plain (q7 hf)
        subst this
        simp)
      (by show lN.sl r = _; rw [yc]; exact q1)
    rw [yb] at i4
    have mono : ∀ y, γ.h y <= V6.h y := λy => by
      refine aA ?_ (m4 y)
      show γ.h y <= if y = g then o + n * x.k else lN.h y
      split
      · rename_i e; subst e; exact a8
      · rw [n4]; exact aj _
    have X3 : o + n * x.k <= V6.h g := by
      have := m4 g
      simpa using this
    have jV : dm V6.h G := by
      cases hf : x.fl with
      | true =>
        have : G = [] := a6.plain (q7 hf)
        subst this
        exact λ_ h => by simp at h
      | false => exact g4 hf
    have acG : ∀ g, V6.ω g = γ.ω g \/ V6.ω g = .db \/ V6.ω g = .free \/ V6.ω g = .row r := λy => by
      rcases w4 y with h | h | h
      · rw [h]
        rcases acF y with h' | h'
        · exact .inl h'
        · exact .inr (.inl h')
      · exact .inr (.inr (.inl h))
      · exact .inr (.inr (.inr h))
    by_cases hn : n = 0
    · refine ⟨V6, [], i4, b4.trans b2, s4.trans yc, mono, ?_, λ_ h => by simp at h, acG⟩
      simp only [Rp]
      exact ⟨_, n, c, q1, q2, q3, q4, q7, q5, q6, .inl ⟨hn, trivial⟩⟩
    · refine ⟨V6, (g, o + n * x.k) :: G, i4, b4.trans b2, s4.trans yc, mono, ?_, λbe hb => ?_, acG⟩
      · simp only [Rp]
        exact ⟨_, n, c, q1, q2, q3, q4, q7, q5, q6, .inr ⟨by omega, g, o, xs, G, rfl, rfl, a6, a7⟩⟩
      · rcases ay.1 hb with rfl | hb
        · exact X3
        · exact jV be hb
theorem r9(s:St)(r q:Nat)(x:Row):look (s.setRow r x).rw q=if r=q then some x else look s.rw q:=by
 simp only[St.setRow,look,dN]
 split<;>rfl
theorem Inv.xq:∀(rs:List Nat) {γ:Gh} {s:St},Inv γ h0 io w0 s f w->
  ∃γ',Inv γ' h0 io w0 (dH s rs) f w/\γ'.β=γ.β/\γ'.sl=γ.sl/\(∀g,γ.h g<=γ'.h g)/\(∀r∈rs,∀x,look s.rw r=some x->∃G,Rp w (.list x.k x.fl x.es) (γ.sl r) G/\dm γ'.h G)/\
   (∀g,γ'.ω g=γ.ω g\/γ'.ω g=.db\/γ'.ω g=.free\/∃r∈rs,γ'.ω g=.row r)/\(dH s rs).sl=s.sl/\(dH s rs).bx=s.bx/\∀q,q∉rs->look (dH s rs).rw q=look s.rw q
 |[],γ,s,hi=>⟨γ,hi,rfl,rfl,λ_=>aj _,λ_ h=>by simp at h,λ_=>.inl rfl,rfl,rfl,λ_ _=>rfl⟩
 |r::rs,γ,s,hi=>by
  cases hl:look s.rw r with
  |none=>
   obtain⟨γ',i1,b1,s1,m1,g1,w1,e1,e2,e3⟩:=Inv.xq rs hi;have e0:dH s (r::rs)=dH s rs:=by simp[dH,hl]
   rw[e0];refine⟨γ',i1,b1,s1,m1,λq hq x hx=>?_,λg=>?_,e1,e2,λq hq=>e3 q (λh=>hq (by simp[h]))⟩
   ·rcases ay.1 hq with rfl|hq
    ·rw[hl]at hx;cases hx
    ·exact g1 q hq x hx
   ·rcases w1 g with h|h|h|⟨q,hq,h⟩
    ·exact .inl h
    ·exact .inr (.inl h)
    ·exact .inr (.inr (.inl h))
    ·exact .inr (.inr (.inr ⟨q,by simp[hq],h⟩))
  |some x=>
   obtain⟨pc,G,i1,b1,s1,m1,rp1,aiv,w1⟩:=hi.share1 hl;obtain⟨lN,i2,b2,s2,m2,g2,w2,e1,e2,e3⟩:=Inv.xq rs i1;have e0:dH s (r::rs)=dH (s.setRow r x.share) rs:=by simp[dH,hl]
   rw[e0];refine⟨lN,i2,b2.trans b1,s2.trans s1,λg=>aA (m1 g) (m2 g),λq hq y hy=>?_,λg=>?_,e1,e2,λq hq=>?_⟩
   ·by_cases hqr:q=r
    ·subst hqr;rw[hl]at hy;cases hy;exact⟨G,rp1,aiv.mono m2⟩
    ·rcases ay.1 hq with hq|hq
     ·exact absurd hq hqr
     ·obtain⟨G',h1,h2⟩:=g2 q hq y (by rw[r9,if_neg (kD hqr)];exact hy);exact⟨G',by rw[<- s1];exact h1,h2⟩
   ·rcases w2 g with h|h|h|⟨q,hq,h⟩
    ·rw[h];rcases w1 g with h'|h'|h'|h'
     ·exact .inl h'
     ·exact .inr (.inl h')
     ·exact .inr (.inr (.inl h'))
     ·exact .inr (.inr (.inr ⟨r,by simp,h'⟩))
    ·exact .inr (.inl h)
    ·exact .inr (.inr (.inl h))
    ·exact .inr (.inr (.inr ⟨q,by simp[hq],h⟩))
   ·simp only[ay,not_or]at hq;rw[e3 q hq.2,r9,if_neg (kD hq.1)]
theorem qv:∀(l:List Nat),iU l=true↔l.Nodup
 |[]=>by simp[iU]
 |x::l=>by simp[iU,qv l]
theorem MV{s S:St}:∀(cs:List C),(∀r∈rowsOf cs,look S.rw r=look s.rw r)->fp (iK S) cs=fp (iK s) cs
 |[],_=>rfl
 |c::cs,h=>by
  have ih:=MV (s:=s) (S:=S) cs (λr hr=>h r (by cases c<;>simp[rowsOf,hr]));simp only[fp,ih];cases c with
  |ref r=>simp only[iK,h r (by simp[rowsOf])]
  |_=>rfl
theorem MU{s:St}:∀{cs:List C} {rs:List RV},fp (iK s) cs=some rs->cs.all C.cell=true
 |[],_,_=>rfl
 |c::cs,rs,h=>by
  simp only[fp]at h
  split at h
  ·rename_i y hy;simp only[ad]at h;obtain⟨Cq,h,_⟩:=h;have ih:=MU h;cases c<;>simp_all[iK,C.cell]
  ·cases h
theorem zg{s:St}:∀{cs:List C} {rs:List RV},fp (kI s) cs=some rs->cs.all C.cell=true
 |[],_,_=>rfl
 |c::cs,rs,h=>by
  simp only[fp]at h
  split at h
  ·rename_i y hy;simp only[ad]at h;obtain⟨Cq,h,_⟩:=h;have ih:=zg h;cases c<;>simp_all[kI,C.cell]
  ·cases h
theorem Sb{γ BW:Gh}{s:St}{ln:List Nat}(hm:∀g,γ.h g<=BW.h g)(hG:∀r∈ln,∀x,look s.rw r=some x->∃G,Rp w (.list x.k x.fl x.es) (γ.sl r) G/\dm BW.h G) :
  ∀(cs:List C) {vs:List Value} {rs:List RV},dR γ w cs vs->fp (kI s) cs=some rs->(∀r∈rowsOf cs,r∈ln)->gz BW.h w rs vs []
 |[],vs,rs,hc,h,_=>by
  simp only[fp,aa]at h;subst h;simp only[dR]at hc;simp[gz,hc]
 |c::cs,vs,rs,hc,h,hl=>by
  simp only[dR]at hc;obtain⟨v,dZ,rfl,hv,yt⟩:=hc;simp only[fp]at h
  split at h
  ·rename_i y hy;simp only[ad]at h;obtain⟨Cq,h,rfl⟩:=h;have ih:=Sb hm hG cs yt h (λr hr=>hl r (by cases c<;>simp[rowsOf,hr]));simp only[gz];refine⟨v,dZ,[],[],rfl,rfl,?_,ih⟩;cases c with
   |d x=>
    simp only[kI,aa]at hy;subst hy;simp only[CR]at hv;obtain⟨G,h1,h2⟩:=hv;exact⟨rfl,G,h1,h2.mono hm⟩
   |nil k fl=>
    simp only[kI,aa]at hy;subst hy;simp only[CR]at hv;refine⟨rfl,[],?_,λ_ h=>by simp at h⟩;simp only[Rp];exact⟨none,0,0,hv.1,rfl,aj _,by simp[maxLen],λ_=>jc,hv.2,λ_ h=>by simp at h,.inl ⟨rfl,trivial⟩⟩
   |ref r=>
    simp only[kI,ad]at hy;obtain⟨x,hx,rfl⟩:=hy;simp only[CR]at hv;obtain⟨G,h1,h2⟩:=hG r (hl r (by simp[rowsOf])) x hx;exact⟨rfl,G,by rw[hv.1];exact h1,h2⟩
   |_=>simp[kI]at hy
  ·cases h
theorem GI{γ BW:Gh}{s S:St}{ln:List Nat}(hS:Inv BW h0 io w0 S f w)(hb:BW.β=γ.β)(sW:BW.sl=γ.sl)(hm:∀g,γ.h g<=BW.h g)(hbx:S.bx=s.bx)(hG:∀r∈ln,∀x,look s.rw r=some x->∃G,Rp w (.list x.k x.fl x.es) (γ.sl r) G/\dm BW.h G)
  (hlk:∀q,q∉ln->look S.rw q=look s.rw q):∀(cs:List C) {vs:List Value} {as:List A},dR γ w cs vs->vK s cs=some as->(∀r∈gZ cs,r∈ln)->(∀r∈cI s cs,r∉ln)->(cI s cs).Nodup->(ch cs).Nodup->
   ∃F,kF BW.h w as vs F/\F.Nodup/\(∀g∈F,(∃r∈cI s cs,BW.ω g=.row r)\/∃b∈ch cs,BW.ω g=.box b/\g=BW.β b)/\∀b∈ch cs,Value.pointer (some ⟨BW.β b,0,none⟩)∈fU as vs
 |[],vs,as,hc,h,_,_,_,_=>by
  simp only[vK,aa]at h;subst h;simp only[dR]at hc;exact⟨[],by simp[kF,hc],by simp,λ_ h=>by simp at h,λ_ h=>by simp[ch]at h⟩
 |c::cs,vs,as,hc,h,hl,Wz,Q4,hnb=>by
  simp only[dR]at hc;obtain⟨v,dZ,rfl,hv,yt⟩:=hc;simp only[vK]at h
  split at h
  ·rename_i a ha;simp only[ad]at h;obtain⟨K8,h,rfl⟩:=h;simp only[gZ,cI]at hl Wz Q4;rw[bj]at Q4;obtain⟨vU,JR,hn3⟩:=Q4;have agP:(ch cs).Nodup:=by
    cases c<;>simp_all[ch]
   obtain⟨F2,r2,d2,l2,p2⟩:=GI hS hb sW hm hbx hG hlk cs yt h (λr hr=>hl r (by simp[hr])) (λr hr=>Wz r (by simp[hr])) JR agP;have O1:CR BW w c v:=hv.mono (γ':=BW) hm (λ_ _ _=>rfl) hb sW c;unfold OL at ha
   split at ha
   ·rename_i b
    split at ha
    ·rename_i OW XX;simp only[ad]at ha;obtain⟨rs,qW,rfl⟩:=ha;have hmo:pK s (.ptr b 0)=rowsOf OW:=by simp[pK,XX]
     rw[hmo]at Wz vU hn3;obtain⟨T,us,k1,k2,k3⟩:=hS.bx b OW (by rw[hbx];exact XX);rw[<- MV (S:=S) _ (λr hr=>hlk r (Wz r (by simp[hr])))]at qW;obtain⟨F1,x1,x2,x3⟩:=xC hS _ k2 qW;simp only[CR]at O1;simp only[ch,cd]at hnb;refine⟨(BW.β b::F1)++F2,?_,?_,λg hg=>?_,λb' kT=>?_⟩
     ·simp only[kF];refine⟨v,dZ,BW.β b::F1,F2,rfl,rfl,?_,r2⟩;simp only[AR];exact⟨_,T,us,F1,O1,k1,hS.lI _ b k3,rfl,x1⟩
     ·rw[bj];refine⟨cd.2 ⟨λhm=>?_,x3 vU⟩,d2,?_⟩
      ·obtain⟨r,_,hr⟩:=x2 _ hm;rw[k3]at hr;cases hr
      ·intro x hx y hy e;subst e;rcases ay.1 hx with rfl|hx
       ·rcases l2 _ hy with ⟨q,hq,h2⟩|⟨b',kT,h2,_⟩
        ·rw[k3]at h2;cases h2
        ·rw[k3]at h2;cases h2;exact hnb.1 kT
       ·obtain⟨r,hr,h1⟩:=x2 x hx;rcases l2 x hy with ⟨q,hq,h2⟩|⟨b',kT,h2,_⟩
        ·rw[h1]at h2;cases h2;exact hn3 _ hr _ hq rfl
        ·rw[h1]at h2;cases h2
     ·rcases aM.1 hg with hg|hg
      ·rcases ay.1 hg with rfl|hg
       ·exact .inr ⟨b,by simp[ch],k3,rfl⟩
       ·obtain⟨r,hr,h1⟩:=x2 g hg;exact .inl ⟨r,by simp only[cI,aM,hmo];exact .inl hr,h1⟩
      ·rcases l2 g hg with ⟨r,hr,h1⟩|⟨b',kT,h1⟩
       ·exact .inl ⟨r,by simp only[cI,aM];exact .inr hr,h1⟩
       ·exact .inr ⟨b',by simp[ch,kT],h1⟩
     ·simp only[ch,ay]at kT;simp only[fU,ay];rcases kT with rfl|kT
      ·exact .inl O1.symm
      ·exact .inr (p2 b' kT)
    ·cases ha
   ·rename_i Q5;simp only[ad]at ha;obtain⟨rs,qW,rfl⟩:=ha;obtain⟨k1,k2,k3⟩:=hv.cells (zg qW);have x1:=Sb hm hG _ k1 qW (λr hr=>hl r (by simp[hr]));have Wq:ch (c::cs)=ch cs:=by
     have qL:=zg qW;cases c<;>simp_all[ch,C.cells,C.cell]
    refine⟨F2,?_,d2,λg hg=>?_,λb kT=>?_⟩
    ·simp only[kF];refine⟨v,dZ,[],F2,rfl,rfl,?_,r2⟩;simp only[AR];refine⟨_,x1,λsU=>?_,λsU=>by rw[k2 sU]⟩;obtain⟨us,rfl⟩:=k3 sU;simp[Value.cells]
    ·rw[Wq];rcases l2 g hg with ⟨r,hr,h1⟩|h1
     ·exact .inl ⟨r,by simp only[cI,aM];exact .inr hr,h1⟩
     ·exact .inr h1
    ·rw[Wq]at kT;simp only[fU];exact p2 b kT
  ·cases h
theorem GU{γ γ':Gh}{s:St}{rs:List Nat}(hm:∀g,γ.h g<=γ'.h g)(hb:γ'.β=γ.β)(sW:γ'.sl=γ.sl)(hG:∀r∈rs,∀x,look s.rw r=some x->∃G,Rp w (.list x.k x.fl x.es) (γ.sl r) G/\dm γ'.h G) :
  ∀{cs:List C} {vs:List Value},(∀r∈rowsOf cs,r∈rs)->dR γ w cs vs->dR γ' w (cs.map (Ni s)) vs
 |[],vs,_,h=>by simpa only [dB,dR] using h
 |c::cs,vs,hr,h=>by
  simp only[dR]at h;obtain⟨v,dZ,rfl,h1,h2⟩:=h;simp only[aQ,dR];refine⟨v,dZ,rfl,?_,GU hm hb sW hG (λr hx=>hr r (by cases c<;>simp_all[rowsOf])) h2⟩;have XM:CR γ' w c v:=CR.mono hm (λ_ _ _=>rfl) hb sW c h1;cases c with
  |ref r=>
   simp only[Ni];split
   ·rename_i x hx;obtain⟨G,g1,g2⟩:=hG r (hr r (by simp[rowsOf])) x hx;simp only[CR]at h1 ⊢;rw[h1.1];exact⟨G,g1,g2⟩
   ·exact XM
  |_=>exact XM
theorem Inv.qc{γ:Gh}{s s':St}{d:Nat}(hi:Inv γ h0 io w0 s f w)(hs:Proofs.YtcdjbelccndadaaGreatDoor.qc s d=some s'):∃γ',Inv γ' h0 io w0 s' f w/\γ'.β=γ.β:=by
 unfold Proofs.YtcdjbelccndadaaGreatDoor.qc at hs
 split at hs
 ·rename_i r hr
  split at hs
  ·rename_i x hx;cases hs;obtain⟨γ',i',b',s1,h1,g1,_⟩:=hi.xq [r];obtain⟨G,hG,hS⟩:=g1 r (by simp) x hx;have hv:=hi.get d;rw[hr]at hv;simp only[CR]at hv;exact⟨γ',i'.Vs d _ (by simp only[CR];rw[hv.1];exact⟨G,hG,hS⟩),b'⟩
  ·cases hs
 ·rename_i b hr
  split at hs
  ·rename_i cs hx;cases hs;obtain⟨T,vs,hB,hC,qM⟩:=hi.bx b cs hx;obtain⟨γ',i',b',s1,h1,g1,_,_,ebx,_⟩:=hi.xq (rowsOf cs);obtain⟨T',dZ,Wo,Up,ag4⟩:=i'.bx b cs (by rw[ebx];exact hx);have hv:dZ=vs:=by
    rw[b']at Wo;have he:=eM (Wo.symm.trans hB)
    injection he with he
    simpa using congrArg Array.toList he
   exact⟨γ',i'.eO Wo ag4 (hv▸GU h1 b' s1 g1 (λr hr=>hr) hC),b'⟩
  ·cases hs;exact⟨γ,hi,rfl⟩
 ·cases hs;exact⟨γ,hi,rfl⟩
end
end
section
open Go.RowKit
section
variable {h0:Nat->Nat} {io:List Nat} {w0:World} {f:Fm} {w:World}
theorem Inv.after{γ:Gh}{s:St}(hi:Inv γ h0 io w0 s f w){h1 h':Nat->Nat}{F mv bs:List Nat}{w':World}(oT:xH h1 F w w' h')(hm:∀g,γ.h g<=h1 g)(agJ:∀g∈F,(∃r∈mv,γ.ω g=.row r)\/∃b∈bs,γ.ω g=.box b)(hr:∀r∈mv,look s.rw r=none)(hb:∀b∈bs,look s.bx b=none)
  (QU:∀g∈F,∀b,γ.ω g=.box b->h' g=0) :
  sJ γ (λo=>(∃r∈mv,o=.row r)\/∃b∈bs,o=.box b) w w'/\
  ∃γ',Inv γ' h0 io w0 s f w'/\γ'.β=γ.β/\γ'.sl=γ.sl/\(∀g,γ.h g<=γ'.h g)/\(∀g,g < w.heap.size->g∉F->γ'.h g=γ.h g)/\(∀g,w.heap.size<=g\/g∈F->γ'.h g=h' g)/\(∀g∈F,(∃r∈mv,γ.ω g=.row r)->γ'.ω g=.db)/\(∀g b,γ.ω g=.box b->γ'.ω g=.box b)/\(∀g,w.heap.size<=g->γ'.ω g=.free):=by
 have hFM:∀g∈F,(∃r∈mv,γ.ω g=.row r)\/∃b∈bs,γ.ω g=.box b:=agJ;have mM:sJ γ (λo=>(∃r∈mv,o=.row r)\/∃b∈bs,o=.box b) w w':={
  os:=oT.os,tape:=oT.tape,output:=oT.output,size:=oT.size
  block:=λg hg hn=>oT.block g hg (λhF=>hn (hFM g hF))
  cell:=λg j hj=>by
   have hg:g < w.heap.size:=by
    rcases cY g w.heap.size with h|h
    ·exact h
    ·have:=hi.eN g h;omega
   exact oT.cell g j hg (bp hj (hm g))
  eX:=oT.eX }
 have i1:=hi.M7 mM (by rintro (⟨r,_,h⟩|⟨b,_,h⟩)<;>cases h) (λb h=>by
   rcases h with ⟨r,_,h⟩|⟨b',kT,h⟩
   ·cases h
   ·cases h;exact hb b kT) (λr h=>by
   rcases h with ⟨r',yQ,h⟩|⟨b',_,h⟩
   ·cases h;exact hr r yQ
   ·cases h)
 have dead:∀g∈F,(∀b cs,look s.bx b=some cs->γ.ω g≠.box b)/\∀r x,look s.rw r=some x->γ.ω g≠.row r:=by
  intro g hg;rcases hFM g hg with ⟨r,yQ,h⟩|⟨b,kT,h⟩
  ·refine⟨λb cs _=>by rw[h];simp,λq x hq=>?_⟩;rw[h];intro e;cases e;rw[hr r yQ]at hq;cases hq
  ·refine⟨λb' cs hq=>?_,λq x _=>by rw[h];simp⟩;rw[h];intro e;cases e;rw[hb b kT]at hq;cases hq
 refine⟨mM,?_⟩;have i2:=i1.settle (h':=λg=>if g < w.heap.size/\g∉F then γ.h g else h' g) (ω':=λg=>match γ.ω g with | .row r=>if r∈mv/\g∈F then .db else .row r|o=>o)
  (λg=>by
   split
   ·exact aj _
   ·rename_i hn;rcases cY g w.heap.size with h|h
    ·exact aA (hm g) (oT.mono g h)
    ·rw[hi.eN g h];omega)
  (λg hg=>by
   by_cases hc:g < w.heap.size/\g∉F
   ·simp[hc]at hg
   ·simp only[if_neg hc]at hg;rcases cY g w.heap.size with h|h
    ·have hF:g∈F:=by
      rcases gp (g∈F) with h2|h2
      ·exact h2
      ·exact absurd ⟨h,h2⟩ hc
     have iQ:γ.ω g≠.free:=by rcases hFM g hF with ⟨r,_,h⟩|⟨b,_,h⟩<;>rw[h]<;>simp
     exact⟨bp h oT.size,(hi.own g iQ).2,dead g hF⟩
    ·have ig:g < w'.heap.size:=by
      rcases cY g w'.heap.size with h2|h2
      ·exact h2
      ·exact absurd (by rw[oT.eN g h2,hi.eN g h]) hg
     have hfr:=hi.qD h;exact⟨ig,.inl (aA hi.size h),λ_ _ _=>by rw[hfr];simp,λ_ _ _=>by rw[hfr];simp⟩)
  (λg=>by
   cases ho:γ.ω g with
   |row r=>
    simp only
    by_cases hc:r∈mv/\g∈F
    ·rw[if_pos hc];have:=dead g hc.2;rw[ho]at this;exact .inr ⟨.inr rfl,by simp,this⟩
    ·rw[if_neg hc];exact .inl rfl
   |_=>exact .inl rfl)
  (λg b hg=>by
   have ho:γ.ω g=.box b:=by
    cases ho:γ.ω g with
    |row r=>
     rw[ho]at hg;simp only at hg
     split at hg<;>cases hg
    |free=>rw[ho]at hg;cases hg
    |db=>rw[ho]at hg;cases hg
    |box b'=>rw[ho]at hg;exact hg
   by_cases hc:g < w.heap.size/\g∉F
   ·simp only[if_pos hc];exact hi.lI g b ho
   ·simp only[if_neg hc];rcases cY g w.heap.size with h|h
    ·have hF:g∈F:=by
      rcases gp (g∈F) with h2|h2
      ·exact h2
      ·exact absurd ⟨h,h2⟩ hc
     exact QU g hF b ho
    ·rw[hi.qD h]at ho;cases ho)
 refine⟨_,i2,rfl,rfl,λg=>?_,λg h1 h2=>by simp[h1,h2],λg hg=>?_,λg hg ⟨r,yQ,h⟩=>by simp[h,yQ,hg],λg b h=>by simp[h],λg hg=>by simp[hi.qD hg]⟩
 ·dsimp only;split
  ·exact aj _
  ·rcases cY g w.heap.size with h|h
   ·exact aA (hm g) (oT.mono g h)
   ·rw[hi.eN g h];omega
 ·have hc:¬(g < w.heap.size/\g∉F):=by
   rintro⟨h1,h2⟩
   rcases hg with h|h
   ·omega
   ·exact h2 h
  simp only[if_neg hc]
theorem nh.re{h h2:Nat->Nat}{x:Row}{v:Value}{F:List Nat}(hr:nh h w x v F)(hF:∀g∈F,h2 g=h g)(hc:x.deep=true\/∀g,h g<=h2 g):nh h2 w x v F:=by
 obtain⟨A,n,c,q1,q2,q3,q4,q5,q6,q7,q8⟩:=hr;refine⟨A,n,c,q1,q2,q3,q4,q5,q6,q7,?_⟩;rcases q8 with q8|⟨g,o,xs,G,a1,a2,a3,a4,a5,a6,a7,a8,a9,sL⟩
 ·exact .inl q8
 ·have hg:g∈F:=by
   cases hd:x.deep with
   |true=>rw[(a9 hd).1];simp
   |false=>rw[(sL hd).1];simp
  refine .inr ⟨g,o,xs,G,a1,a2,a3,a4,a5,by rw[hF g hg];exact a6,λhz=>by rw[hF g hg];exact a7 hz,a8,λhd=>⟨(a9 hd).1,λbe hb=>?_⟩,λhd=>⟨(sL hd).1,?_⟩⟩
  ·have hm:be.1∈F:=by rw[(a9 hd).1];simp;exact .inr ⟨be.2,hb⟩
   rw[hF _ hm];exact (a9 hd).2 be hb
  ·rcases hc with hc|hc
   ·rw[hd]at hc;cases hc
   ·exact (sL hd).2.mono hc
theorem gz.re{h h2:Nat->Nat}:∀{rs:List RV} {vs:List Value} {F:List Nat},gz h w rs vs F->(∀g∈F,h2 g=h g)->(rs.all RV.closed=true\/∀g,h g<=h2 g)->gz h2 w rs vs F
 |[],_,_,hr,_,_=>by simpa only [gz] using hr
 | .d x::rs,_,_,hr,hF,hc=>by
  simp only[gz,Cy]at hr ⊢;obtain⟨v,dZ,F1,F2,rfl,rfl,⟨rfl,G,h3,h4⟩,h5⟩:=hr;refine⟨v,dZ,[],F2,rfl,rfl,⟨rfl,G,h3,?_⟩,gz.re h5 (by simpa using hF) (hc.imp (λh=>by simp at h ⊢;exact h.2) id)⟩;rcases hc with hc|hc
  ·simp only[bT,ab,RV.closed]at hc;have:eb w [x] [v] G:=by simp only[eb];exact⟨v,[],G,[],rfl,by simp,h3,rfl,rfl⟩
   have hG:G=[]:=this.plain (by simp[hc.1]);subst hG;exact λ_ h=>by simp at h
  ·exact h4.mono hc
 | .row x::rs,_,_,hr,hF,hc=>by
  simp only[gz,Cy]at hr ⊢;obtain⟨v,dZ,F1,F2,rfl,rfl,⟨h3,h4⟩,h5⟩:=hr;refine⟨v,dZ,F1,F2,rfl,rfl,⟨h3.re (λg hg=>hF g (by simp[hg])) (hc.imp (λh=>by simp[RV.closed]at h;exact h.1) id),h4⟩,gz.re h5 (λg hg=>hF g (by simp[hg])) (hc.imp (λh=>by simp at h ⊢;exact h.2) id)⟩
theorem kF.re{h h2:Nat->Nat}:∀{rs:List A} {vs:List Value} {F:List Nat},kF h w rs vs F->(∀g∈F,h2 g=h g)->(rs.all A.closed=true\/∀g,h g<=h2 g)->kF h2 w rs vs F
 |[],_,_,hr,_,_=>by simpa only [kF] using hr
 | .val ag cs::rs,_,_,hr,hF,hc=>by
  simp only[kF,AR]at hr ⊢;obtain⟨v,dZ,F1,F2,rfl,rfl,⟨us,h3,h4⟩,h5⟩:=hr;exact⟨v,dZ,F1,F2,rfl,rfl,⟨us,h3.re (λg hg=>hF g (by simp[hg])) (hc.imp (λh=>by simp only[bT,ab,A.closed]at h;exact h.1) id),h4⟩,kF.re h5 (λg hg=>hF g (by simp[hg])) (hc.imp (λh=>by simp only[bT,ab]at h;exact h.2) id)⟩
 | .box cs::rs,_,_,hr,hF,hc=>by
  simp only[kF,AR]at hr ⊢;obtain⟨v,dZ,F1,F2,rfl,rfl,⟨g,T,us,F',h1,h2',h3,rfl,h4⟩,h5⟩:=hr;refine⟨v,dZ,g::F',F2,rfl,rfl,⟨g,T,us,F',h1,h2',by rw[hF g (by simp)];exact h3,rfl,h4.re (λy hy=>hF y (by simp[hy])) (hc.imp (λh=>by simp only[bT,ab,A.closed]at h;exact h.1) id)⟩,kF.re h5 (λg hg=>hF g (by simp[hg])) (hc.imp (λh=>by simp only[bT,ab]at h;exact h.2) id)⟩
theorem AR.ptr{h:Nat->Nat}{a:A}{g:Nat}{F:List Nat}(hr:AR h w a (.pointer (some ⟨g,0,none⟩)) F):(∃cs,a=.box cs)/\h g=0/\g∈F:=by
 cases a with
 |val ag cs=>
  simp only[AR]at hr;obtain⟨us,h1,h2,h3⟩:=hr;cases ag with
  |true=>cases h2 rfl
  |false=>
   have:=h3 rfl;subst this;cases cs with
   |nil=>simp[gz]at h1
   |cons r rs=>
    simp only[gz]at h1;obtain⟨v,dZ,F1,F2,e,_,h4,_⟩:=h1;simp only[bw]at e;rw[<- e.1]at h4;cases r with
    |d x=>
     obtain⟨_,G,h5,_⟩:=h4;have:=h5.qN;cases x<;>simp[Rp]at h5
    |row x=>
     obtain⟨A,n,c,h6⟩:=h4.1.slice;cases h6
 |box cs=>
  simp only[AR]at hr;obtain⟨g',T,us,F',e,_,h3,rfl,_⟩:=hr;simp only[Value.pointer.injEq,aa,Addr.mk.injEq,and_true]at e;subst e;exact⟨⟨cs,rfl⟩,h3,by simp⟩
theorem kF.ptr{h:Nat->Nat}:∀{as:List A} {vs:List Value} {F:List Nat},kF h w as vs F->∀g,Value.pointer (some ⟨g,0,none⟩)∈vs->h g=0/\g∈F
 |[],_,_,hr,g,hg=>by simp only[kF]at hr;rw[hr.1]at hg;simp at hg
 |a::as,_,_,hr,g,hg=>by
  simp only[kF]at hr;obtain⟨v,dZ,F1,F2,rfl,rfl,h1,h2⟩:=hr;rcases ay.1 hg with rfl|hg
  ·obtain⟨_,h3,h4⟩:=h1.ptr;exact⟨h3,by simp[h4]⟩
  ·obtain⟨h3,h4⟩:=kF.ptr h2 g hg;exact⟨h3,by simp[h4]⟩
def Cx(β:Nat->Nat):List C->List Value->Prop
 |[],vs=>vs=[]
 |c::cs,vs=>∃v dZ,vs=v::dZ/\(∀b,c=.ptr b 0->v=.pointer (some ⟨β b,0,none⟩))/\Cx β cs dZ
theorem dR.Oz{γ:Gh}:∀{cs:List C} {vs:List Value},dR γ w cs vs->Cx γ.β cs vs
 |[],_,h=>by simpa only [dR,Cx] using h
 |c::cs,_,h=>by
  simp only[dR]at h;obtain⟨v,dZ,rfl,h1,h2⟩:=h;simp only[Cx];exact⟨v,dZ,rfl,λb e=>by subst e;simpa only [CR] using h1,dR.Oz h2⟩
theorem xB:∀(cs:List C) {as outs:List A} {vs:List Value} {F:List Nat} {γ:Gh} {s s':St},Inv γ h0 io w0 s f w->Cx γ.β cs vs->vK s' cs=some as->kF γ.h w outs (fU as vs) F->F.Nodup->(∀g∈F,(γ.ω g=.free\/γ.ω g=.db\/Value.pointer (some ⟨g,0,none⟩)∈fU as vs)/\g < w.heap.size/\(w0.heap.size<=g\/g∈io))->
  (∀b∈ch cs,γ.ω (γ.β b)=.box b)->∃γ',Inv γ' h0 io w0 (jM s cs outs) f w/\γ'.β=γ.β/\γ'.h=γ.h/\∀g,g∉F->γ'.ω g=γ.ω g
 |[],as,outs,vs,F,γ,s,s',hi,_,_,_,_,_,_=>⟨γ,by simpa [jM] using hi,rfl,rfl,λ_ _=>rfl⟩
 |c::cs,as,outs,vs,F,γ,s,s',hi,hc,ha,hr,jm,hF,Wq=>by
  simp only[Cx]at hc;obtain⟨v,dZ,rfl,hv,yt⟩:=hc;simp only[vK]at ha
  split at ha
  ·rename_i a Uq;simp only[ad]at ha;obtain⟨K8,ha,rfl⟩:=ha;by_cases hp:∃b,c=.ptr b 0
   ·obtain⟨b,rfl⟩:=hp;have lI:∃rs,a=.box rs:=by
     simp only[OL]at Uq
     split at Uq
     ·simp only[ad]at Uq;obtain⟨rs,_,rfl⟩:=Uq;exact⟨rs,rfl⟩
     ·cases Uq
    obtain⟨rs,rfl⟩:=lI;simp only[fU]at hr hF;have hv:=hv b rfl;cases outs with
    |nil=>simp[kF]at hr
    |cons o outs=>
     simp only[kF]at hr;obtain⟨v0,ovs,F1,F2,e,rfl,h1,h2⟩:=hr;simp only[bw]at e;obtain⟨rfl,rfl⟩:=e;rw[hv]at h1;obtain⟨⟨OW,rfl⟩,hz,hgm⟩:=h1.ptr;simp only[AR]at h1;obtain⟨g,T,us,F',e,hB,yP,rfl,qW⟩:=h1;simp only[Value.pointer.injEq,aa,Addr.mk.injEq,and_true]at e;subst e;rw[bj]at jm;obtain⟨vU,JR,qV⟩:=jm;obtain⟨hg1,Ya⟩:=cd.1 vU;have QN:∀g∈F',γ.ω g=.free\/γ.ω g=.db:=by
      intro g hg;rcases (hF g (by simp[hg])).1 with h|h|h
      ·exact .inl h
      ·exact .inr h
      ·exfalso
       rcases ay.1 h with h|h
       ·rw[hv]at h;simp only[Value.pointer.injEq,aa,Addr.mk.injEq,and_true]at h;exact hg1 (h▸hg)
       ·have:=(kF.ptr h2 g h).2;exact qV g (by simp[hg]) g this rfl
     obtain⟨pc,i1,c1,b1,XM,o1,s1⟩:=mo (d:=b+500) OW 0 hi qW Ya (λg hg=>⟨QN g hg,(hF g (by simp[hg])).2⟩);have ag5:pc.ω (pc.β b)=.box b:=by
      rw[b1,o1 _ hg1];exact Wq b (by simp[ch])
     have i2:=i1.eO (b:=b) (by rw[b1];exact hB) ag5 c1;have ag8:∀g,g∈F2->g∉F':=λg hg h=>qV g (by simp[h]) g hg rfl;obtain⟨lN,i3,b3,h3,o3⟩:=xB cs (as:=K8) (outs:=outs) (vs:=dZ) (F:=F2) i2 (by rw[b1];exact yt) ha (by rw[XM];exact h2) JR (λg hg=>by
      obtain⟨k1,k2⟩:=hF g (by simp[hg]);refine⟨?_,k2⟩;rw[o1 g (ag8 g hg)];rcases k1 with h|h|h
      ·exact .inl h
      ·exact .inr (.inl h)
      ·rcases ay.1 h with h|h
       ·exfalso
        rw[hv]at h;simp only[Value.pointer.injEq,aa,Addr.mk.injEq,and_true]at h;exact qV g (by simp[h]) g hg rfl
       ·exact .inr (.inr h)) (λb' kT=>by
      have Af:=Wq b' (by simp[ch,kT]);rw[b1,o1]
      ·exact Af
      ·intro hm;rcases QN _ hm with h|h<;>rw[Af]at h<;>cases h)
     refine⟨lN,by simpa [jM] using i3,b3.trans b1,h3.trans XM,λg hg=>?_⟩;simp only[aM,ay,not_or]at hg;rw[o3 g hg.2,o1 g hg.1.2]
   ·have HE:∃ag rs,a=.val ag rs:=by
     unfold OL at Uq
     split at Uq
     ·rename_i b;exact absurd ⟨b,rfl⟩ hp
     ·simp only[ad]at Uq;obtain⟨rs,_,rfl⟩:=Uq;exact⟨_,rs,rfl⟩
    obtain⟨ag,rs,rfl⟩:=HE;simp only[fU]at hr hF;have e:jM s (c::cs) outs=jM s cs outs:=by
     cases c with
     |ptr b o=>
      cases o with
      |zero=>exact absurd ⟨b,rfl⟩ hp
      |succ o=>simp[jM]
     |_=>simp[jM]
    rw[e];exact xB cs hi yt ha hr jm hF (λb hb=>Wq b (by cases c<;>simp[ch,hb]))
  ·cases ha
theorem vD{d:Nat}:∀(rs:List A) {us:List Value} {F:List Nat} (q:Nat) {γ:Gh} {s:St},Inv γ h0 io w0 s f w->kF γ.h w rs us F->F.Nodup->(∀g∈F,(γ.ω g=.free\/γ.ω g=.db)/\g < w.heap.size/\(w0.heap.size<=g\/g∈io))->(∀a∈rs,∃ag cs,a=.val ag cs/\cs.length<=30)->
  ∃γ',Inv γ' h0 io w0 (fw d q rs s).2 f w/\dR γ' w (fw d q rs s).1 us/\γ'.β=γ.β/\γ'.h=γ.h/\∀r,(∀i,30 * q<=i->r≠tB d i)->γ'.sl r=γ.sl r
 |[],us,F,q,γ,s,hi,hr,_,_,_=>by
  simp only[kF]at hr;obtain⟨rfl,rfl⟩:=hr;exact⟨γ,by simpa [fw] using hi,by simp[fw,dR],rfl,rfl,λ_ _=>rfl⟩
 |a::rs,us,F,q,γ,s,hi,hr,jm,hF,hv=>by
  obtain⟨ag,cs,rfl,hlen⟩:=hv a (by simp);simp only[kF,AR]at hr;obtain⟨v,dZ,F1,F2,rfl,rfl,⟨ws,h3,h4,h5⟩,h6⟩:=hr;rw[bj]at jm;obtain⟨vU,JR,qV⟩:=jm;have hwl:=h3.length;obtain⟨pc,i1,c1,b1,e1,o1,s1⟩:=qi (d:=d) cs (30 * q) hi h3 vU (λg hg=>hF g (by simp[hg]));obtain⟨lN,i2,c2,b2,e2,s2⟩:=vD rs (q+1) i1 (by rw[e1];exact h6) JR (λg hg=>by
   rw[o1 g (λh=>qV g h g hg rfl)];exact hF g (by simp[hg])) (λa ha=>hv a (by simp[ha]))
  have c1':dR lN w (dU d (30 * q) cs s).1 ws:=by
   refine c1 lN (by rw[e2]) (λj hj1 hj2=>s2 _ (λi hi=>Kj (by omega)))
  refine⟨lN,i2,?_,b2.trans b1,e2.trans e1,λr hr=>?_⟩
  ·simp only[fw,dR];refine⟨v,dZ,rfl,?_,c2⟩;cases ag with
   |true=>
    rw[h4 rfl];simp only[if_true,CR];exact⟨ws,rfl,c1'⟩
   |false=>
    simp only[av,if_false];have:=h5 rfl;subst this;exact wF c1'
  ·rw[s2 r (λi hi=>hr i (by omega)),s1 r (λi hi=>hr i hi)]
end
end
end Go.Proofs.YtcdjbelccndadaaGreatDoor
