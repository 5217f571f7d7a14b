/- Part of the proof: a machine over plain data, its proof, the functions of the program run on symbols, what they answer. Condition: none. -/
import Derived.WalkKit
import Derived.WalkSpells
import Derived.WalkLawsBesides
import Derived.Deep.LoopGhost
import Derived.OrdersHeld
import Derived.Lib.ItoaNum
import Derived.Lib.Bytealg
import Derived.Lib.LaidTab
import Derived.Laws.Tables
set_option linter.unusedVariables false
set_option linter.unusedSimpArgs false
open Array renaming length_toList->eI,toList_map->mW,replicate->nY,getElem?_eq_getElem->pT,getElem?_eq_none->sF
open Bool renaming and_eq_true->ab,false_eq_true->au,not_eq_true'->ck,eq_iff_iff->cU,or_eq_true->dE
open Decidable renaming em->gq
open Go renaming sizeOf->kB
open Int renaming neg_neg->qH
open List renaming cons_append->ai,nil_append->ak,length_map->av,mem_cons->ay,replicate->aC,append_nil->aD,length_cons->aE,getElem?_eq_some_iff->aI,mem_append->aL,map_cons->aN,length_append->aO,length_nil->aQ,all_eq_true->aS,take_length->aW,length_take->aY,take_append_drop->a_,append_assoc->bh,nodup_append->bj,mem_of_mem_take->bM,mem_map->bQ,eq_nil_of_length_eq_zero->bT,all_cons->bW,nodup_cons->bZ,getElem?_append_left->cl,length_eq_zero_iff->cn,getElem?_append_right->cr,mem_singleton->ct,take_succ_cons->cD,length_eq_one_iff->cJ,mem_of_getElem?->cK,mem_map_of_mem->cR,map_append->dc,flatten_cons->dh,getElem?_take->dt,map_nil->dD,ext_getElem?->ed,drop_of_length_le->ez,replicate_succ->fp,length_drop->gN,getElem?_drop->gW,getElem?_set->iu,mem_of_mem_drop->iz,getElem?_eq_none->jN,mem_or_eq_of_mem_set->kD,filter_filter->lE,take_left->l8,take_one->ng,head?_drop->nZ,drop_drop->pj,flatMap_cons->pW,size_toArray->pX,foldl_cons->tm,getElem?_append->uH
open List.cons renaming injEq->bq
open Nat renaming le_refl->aj,le_trans->az,lt_of_lt_of_le->bn,zero_add->bo,lt_or_ge->cY,add_assoc->dv,min_eq_left->dU,mul_le_mul_right->er,add_zero->eA,blt->fh,succ_mul->iE,beq->jy,blt_eq->lH,add_sub_cancel_left->lK,eq_of_beq_eq_true->mY,ble->ny,sub_self->oP,zero_mul->oQ,zero_le->qL,add_mul->uL
open Ne renaming symm->kF
open Option renaming map_eq_some_iff->ad,isSome_iff_exists->bF,bind_some->cO,isNone_iff_eq_none->pw
open Option.some renaming injEq->aa,inj->eJ
open Prod renaming fst->bG,snd->pn
open Prod.mk renaming injEq->ao
open UInt8 renaming ofNat->cL
namespace Go.Proofs.YtcdjbelccndadaaGreatDoor
section
open Go.RowKit
inductive V where
 |int (n:Int)
 |bool (b:Bool)
 |str (s:ByteArray)
 |list (xs:List V)
 |agg (fs:List V)
mutual
def V.cnt:V->Nat
 | .int _=>1
 | .bool _=>1
 | .str _=>1
 | .list xs=>V.Xd xs+1
 | .agg fs=>V.Xd fs+1
def V.Xd:List V->Nat
 |[]=>0
 |f::fs=>V.cnt f+V.Xd fs+1
end
def gz(w:World)(b o:Nat)(cs:List Value):Prop:=∀j u,cs[j]?=some u->w.cell? ⟨b,o+j,none⟩=some u
theorem nH(b o n:Nat):(⟨b,o,none⟩:Addr).add n=⟨b,o+n,none⟩:=by
 unfold Addr.add;split
 ·rename_i h;subst h;rfl
 ·rfl
theorem gz.cG{w w':World}{b o:Nat}{cs:List Value}(h:gz w b o cs)(hk:w'.heap[b]?=w.heap[b]?):gz w' b o cs:=by
 intro j u hu;rw[World.cell?_of_block (w:=w) hk];exact h j u hu
theorem gz.sub{w:World}{b o:Nat}{cs:List Value}(h:gz w b o cs)(j k:Nat):gz w b (o+j) ((cs.drop j).take k):=by
 intro i u hu;rw[dt]at hu
 split at hu
 ·rw[gW]at hu;rw[dv];exact h _ u hu
 ·cases hu
theorem DA{w:World}{b:Nat}{o:Obj}(h:w.heap[b]?=some o):b < w.heap.size:=by
 rcases cY b w.heap.size with hl|hl
 ·exact hl
 ·simp[sF hl]at h
theorem Fx{w w':World}{b:Nat}(hb:b < w.heap.size)(hk:w'.heap[b]?=w.heap[b]?):b < w'.heap.size:=by
 rw[pT hb]at hk;exact DA hk
structure D3 (B:Nat) (w w':World):Prop extends Below B w w' where
 KQ:∀g,B<=g->∀o,w'.frozen? ⟨g,o,none⟩=false
theorem tU{w:World}{g:Nat}(h:w.heap.size<=g)(o:Nat):w.frozen? ⟨g,o,none⟩=false:=by
 simp[World.frozen?,sF h]
theorem Pm(w:World):D3 w.heap.size w w:=⟨Below.refl _ _,λ_ hg o=>tU hg o⟩
theorem D3.drew{B:Nat}{a w:World}(h:D3 B a w):D3 B a w.drew:=⟨h.toBelow.drew,h.KQ⟩
theorem Pl{B:Nat}{a w w':World}(h:D3 B a w)(hk:D3 w.heap.size w w')(hB:B<=w.heap.size):D3 B a w':=by
 refine⟨h.toBelow.trans (hk.toBelow.mono hB),λg hg o=>?_⟩;rcases cY g w.heap.size with hl|hl
 ·rw[World.frozen?_of_block (w:=w) (hk.block g hl)];exact h.KQ g hg o
 ·exact hk.KQ g hl o
theorem CG(w:World)(cs:Array Value)(t:TypeId):D3 w.heap.size w (w.alloc (.cells cs t)):=by
 refine⟨(Below.refl _ _).alloc (aj _) _,λg hg o=>?_⟩;by_cases e:g=w.heap.size
 ·subst e;unfold World.frozen?;simp only[heap_alloc_new];simp
 ·exact tU (by simp;omega) o
def kX(w:World)(g:Nat)(t:TypeId)(cs:List Value):Prop:=w.heap[g]?=some (.cells cs.toArray t (0,0))
def gk(w:World)(g:Nat)(o:Obj):World:={w with heap:=w.heap.setIfInBounds g o }
section
variable {w w':World} {g:Nat} {t:TypeId} {cs:List Value}
theorem kX.lt(h:kX w g t cs):g < w.heap.size:=DA h
theorem kX.cell(h:kX w g t cs)(i:Nat):w.cell? ⟨g,i,none⟩=cs[i]?:=by
 unfold kX at h;simp[World.cell?,h]
theorem kX.J9(h:kX w g t cs):gz w g 0 cs:=by
 intro j u hu;rw[bo,h.cell,hu]
theorem kX.frozen(h:kX w g t cs)(i:Nat):w.frozen? ⟨g,i,none⟩=false:=by
 unfold kX at h;simp[World.frozen?,h]
theorem kX.new(w:World)(t:TypeId)(cs:List Value):kX (w.alloc (.cells cs.toArray t)) w.heap.size t cs:=by
 unfold kX;exact heap_alloc_new w _
theorem kX.cG(h:kX w g t cs)(hk:w'.heap[g]?=w.heap[g]?):kX w' g t cs:=hk.trans h
theorem kX.alloc(h:kX w g t cs)(o:Obj):kX (w.alloc o) g t cs:=h.cG (Below.heap_alloc w o g h.lt)
theorem Nw(w:World)(g:Nat)(o:Obj)(k:Nat)(h:k≠g):(gk w g o).heap[k]?=w.heap[k]?:=by
 simp[gk,Array.getElem?_setIfInBounds_ne (kF h)]
theorem fD(w:World)(g:Nat)(o:Obj):(gk w g o).heap.size=w.heap.size:=by simp[gk]
theorem kX.kz(h:kX w g t cs)(t':TypeId)(iA:List Value):kX (gk w g (.cells iA.toArray t' (0,0))) g t' iA:=by
 unfold kX gk;simp[h.lt]
theorem IG(h:kX w g t cs)(i:Nat)(v:Value):w.setCell ⟨g,i,none⟩ v=gk w g (.cells (cs.set i v).toArray t (0,0)):=by
 unfold World.setCell gk
 congr 1
 apply Array.ext
 ·simp
 ·intro k h1 h2;simp only[Array.size_modify]at h1;simp only[Array.getElem_modify];split
  ·rename_i e;subst e;have hg:w.heap[g]'h1=.cells cs.toArray t (0,0):=by
    have:=h;unfold kX at this;rw[pT h1]at this;exact eJ this
   rw[hg];simp
  ·rename_i e;rw[Array.getElem_setIfInBounds_ne _ e]
end
theorem kX.drew{w:World}{g:Nat}{t:TypeId}{cs:List Value}(h:kX w g t cs):kX w.drew g t cs:=h
theorem size_alloc(w:World)(o:Obj):(w.alloc o).heap.size=w.heap.size+1:=by simp
end
section
open Go.RowKit
abbrev Fm:=Nat->Value
def yo(f:Fm)(d:Nat)(v:Value):Fm:=λi=>cond (jy i d) v (f i)
def fr(f:Fm)(N:Nat):Act:=⟨Array.ofFn (λi:Fin N=>f i.val),[]⟩
theorem qj(f:Fm)(N d:Nat)(v:Value):(fr f N).put (some d) v=fr (yo f d v) N:=by
 have e:(Array.ofFn (λi:Fin N=>f i.val)).setIfInBounds d v=Array.ofFn (λi:Fin N=>yo f d v i.val):=by
  apply Array.ext
  ·simp
  ·intro i h1 h2;simp only[Array.size_ofFn]at h2;rw[Array.getElem_setIfInBounds (by simpa using h2)];simp only[Array.getElem_ofFn,yo];by_cases h:d=i
   ·subst h;simp
   ·have h':jy i d=false:=by
     cases hb:jy i d
     ·rfl
     ·exact absurd (mY hb).symm h
    simp[h,h']
 exact congrArg (λt=>Act.mk t []) e
theorem yT(f:Fm){N d:Nat}(hd:d < N):(fr f N).eval (.tmp d)=f d:=by
 simp[fr,Act.eval,hd]
theorem et{f:Fm}{N d:Nat}{v:Value}(h:f d=v)(hd:fh d N=true:=by rfl):(fr f N).eval (.tmp d)=v:=by
 rw[yT f (by simpa using hd)];exact h
theorem ec{f:Fm}{N:Nat}{v:Value}:(fr f N).eval (.const v)=v:=rfl
def Ot(N:Nat)(Kn:Fm->World->Prop)(Ke:Nat->Fm->World->Prop)(Kr:Fm->World->Prop):Exit->Act->World->Prop
 | .normal,a,w=>∃f,a=fr f N/\Kn f w
 | .exit id,a,w=>∃f,a=fr f N/\Ke id f w
 | .ret,a,w=>∃f,a=fr f N/\Kr f w
 |_,_,_=>False
def W(P:Program)(N:Nat)(c:Code)(Kn:Fm->World->Prop)(Ke:Nat->Fm->World->Prop)(Kr:Fm->World->Prop)(f:Fm)(w:World):Prop:=
 c.wp P (Ot N Kn Ke Kr) (fr f N) w
def Ls(P:Program)(N:Nat)(ops:Array Oper)(Kn:Fm->World->Prop)(rest:List Oper)(f:Fm)(w:World):Prop:=
 wpList P ops (Ot N Kn (λ_ _ _=>False) (λ_ _=>False)) rest (fr f N) w
def oq(N:Nat)(ops:Array Oper)(f:Fm)(g:Option (Nat×Bool)):Prop:=
 Region.wanted {(default:Oper) with guard:=g } (yielded ops (fr f N).tmps)=true
theorem wn{N:Nat}{ops:Array Oper}{f:Fm}:oq N ops f none:=rfl
theorem B3{N:Nat}{ops:Array Oper}{f:Fm}{j dj:Nat}(hj:(ops[j]?).bind (·.dst)=some dj)(hd:fh dj N=true)(b:Bool)(hb:f dj=.bool b):yielded ops (fr f N).tmps j=some b:=by
 have ic:dj < N:=by simpa using hd
 simp[yielded,hj,fr,ic,hb]
theorem K7{N:Nat}{ops:Array Oper}{f:Fm}{j dj:Nat}(hj:(ops[j]?).bind (·.dst)=some dj)(hd:fh dj N=true)(hb:f dj=undef):yielded ops (fr f N).tmps j=none:=by
 have ic:dj < N:=by simpa using hd
 simp[yielded,hj,fr,ic,hb,undef]
theorem wy{N:Nat}{ops:Array Oper}{f:Fm}{j dj:Nat}{want:Bool}(hb:f dj=.bool want)(hj:(ops[j]?).bind (·.dst)=some dj:=by rfl)(hd:fh dj N=true:=by rfl):oq N ops f (some (j,want)):=by
 simp[oq,Region.wanted,B3 hj hd want hb]
theorem oq.to{N:Nat}{ops:Array Oper}{f:Fm}{gd:Option (Nat×Bool)}(h:oq N ops f gd)(dst:Option Tmp)(op:Op)(ty:TypeId)(pos:String)(aft:Array Edge):Region.wanted ⟨dst,op,ty,pos,aft,gd⟩ (yielded ops (fr f N).tmps)=true:=h
def gX(N:Nat)(ops:Array Oper)(f:Fm)(g:Option (Nat×Bool)):Prop:=
 Region.wanted {(default:Oper) with guard:=g } (yielded ops (fr f N).tmps)=false
theorem gX.to{N:Nat}{ops:Array Oper}{f:Fm}{gd:Option (Nat×Bool)}(h:gX N ops f gd)(dst:Option Tmp)(op:Op)(ty:TypeId)(pos:String)(aft:Array Edge):¬Region.wanted ⟨dst,op,ty,pos,aft,gd⟩ (yielded ops (fr f N).tmps)=true:=by
 have h':Region.wanted ⟨dst,op,ty,pos,aft,gd⟩ (yielded ops (fr f N).tmps)=false:=h;rw[h'];simp
theorem wx{N:Nat}{ops:Array Oper}{f:Fm}{j dj:Nat}{want:Bool}(hb:f dj=.bool (!want))(hj:(ops[j]?).bind (·.dst)=some dj:=by rfl)(hd:fh dj N=true:=by rfl):gX N ops f (some (j,want)):=by
 simp[gX,Region.wanted,B3 hj hd _ hb]
theorem wu{N:Nat}{ops:Array Oper}{f:Fm}{j dj:Nat}{want:Bool}(hb:f dj=undef)(hj:(ops[j]?).bind (·.dst)=some dj:=by rfl)(hd:fh dj N=true:=by rfl):gX N ops f (some (j,want)):=by
 simp[gX,Region.wanted,K7 hj hd hb]
section rules
variable {P:Program} {N:Nat} {Kn:Fm->World->Prop} {Ke:Nat->Fm->World->Prop} {Kr:Fm->World->Prop} {f:Fm} {w:World}
theorem iq{x y:Code}(h:W P N x (λf w=>W P N y Kn Ke Kr f w) Ke Kr f w):W P N (.seq x y) Kn Ke Kr f w:=by
 refine wp_seq (wp_mono h ?_);intro e a w hq;cases e with
 |normal=>obtain⟨f',rfl,hk⟩:=hq;exact hk
 |exit id=>exact hq
 |ret=>exact hq
 |goto l=>exact hq.elim
 |panic c=>exact hq.elim
 |outgrown=>exact hq.elim
theorem uE(h:Kn f w):W P N .skip Kn Ke Kr f w:=wp_skip ⟨f,rfl,h⟩
theorem DY(h:Kr f w):W P N .ret Kn Ke Kr f w:=wp_ret ⟨f,rfl,h⟩
theorem Gi{id:Nat}(h:Ke id f w):W P N (.exit id) Kn Ke Kr f w:=wp_exit ⟨f,rfl,h⟩
theorem xD{c:Operand}{x y:Code}(hc:(fr f N).eval c=.bool true)(h:W P N x Kn Ke Kr f w):W P N (.cond c x y) Kn Ke Kr f w:=wp_cond hc h
theorem uD{c:Operand}{x y:Code}(hc:(fr f N).eval c=.bool false)(h:W P N y Kn Ke Kr f w):W P N (.cond c x y) Kn Ke Kr f w:=wp_cond hc h
theorem tj{id:Nat}{c:Code}(h:W P N c Kn (λid' f w=>if id'=id then Kn f w else Ke id' f w) Kr f w):W P N (.block id c) Kn Ke Kr f w:=by
 refine wp_block (wp_mono h ?_);intro e a w hq;cases e with
 |normal=>exact hq
 |ret=>exact hq
 |exit id'=>
  obtain⟨f',rfl,hk⟩:=hq;simp only[Exit.inBlock]
  split at hk
  ·rename_i he;rw[if_pos he];exact⟨f',rfl,hk⟩
  ·rename_i he;rw[if_neg he];exact⟨f',rfl,hk⟩
 |goto l=>exact hq.elim
 |panic c=>exact hq.elim
 |outgrown=>exact hq.elim
theorem Gj{c:Code}(I:Nat->Fm->World->Prop)(n0:Nat)(h0:I n0 f w)
  (round:∀n f w,I n f w->W P N c (λf' w'=>∃n',n' < n/\I n' f' w') Ke Kr f w):W P N (.loop c) Kn Ke Kr f w:=by
 refine wp_loop_ghost (λn a w=>∃f,a=fr f N/\I n f w) n0 ⟨f,rfl,h0⟩ ?_
 rintro n a w ⟨f,rfl,hI⟩
 refine wp_mono (round n f w hI) ?_;intro e a w hq;cases e with
 |normal=>obtain⟨f',rfl,n',hn,hI'⟩:=hq;exact⟨n',hn,f',rfl,hI'⟩
 |exit id=>exact hq
 |ret=>exact hq
 |goto l=>exact hq.elim
 |panic c=>exact hq.elim
 |outgrown=>exact hq.elim
theorem dP{id:Nat}{l:List Oper}(h:Ls P N l.toArray Kn l f w):W P N (.region id l.toArray false) Kn Ke Kr f w:=by
 refine wp_mono (wp_region_lit h) ?_;intro e a w hq;cases e with
 |normal=>exact hq
 |exit id=>obtain⟨_,_,h⟩:=hq;exact h.elim
 |ret=>obtain⟨_,_,h⟩:=hq;exact h.elim
 |goto l=>exact hq.elim
 |panic c=>exact hq.elim
 |outgrown=>exact hq.elim
theorem kb{c:Code}{Kn':Fm->World->Prop}{Ke':Nat->Fm->World->Prop}{Kr':Fm->World->Prop}(h:W P N c Kn Ke Kr f w)
  (hn:∀f w,Kn f w->Kn' f w) (he:∀i f w,Ke i f w->Ke' i f w) (hr:∀f w,Kr f w->Kr' f w):W P N c Kn' Ke' Kr' f w:=by
 refine wp_mono h ?_;intro e a w hq;cases e with
 |normal=>obtain⟨f',h1,h2⟩:=hq;exact⟨f',h1,hn _ _ h2⟩
 |exit id=>obtain⟨f',h1,h2⟩:=hq;exact⟨f',h1,he _ _ _ h2⟩
 |ret=>obtain⟨f',h1,h2⟩:=hq;exact⟨f',h1,hr _ _ h2⟩
 |goto l=>exact hq.elim
 |panic c=>exact hq.elim
 |outgrown=>exact hq.elim
variable {ops:Array Oper} {rest:List Oper} {d:Nat} {op:Op} {ty:TypeId} {pos:String} {aft:Array Edge} {gd:Option (Nat×Bool)}
theorem iI(h:Kn f w):Ls P N ops Kn [] f w:=⟨f,rfl,h⟩
theorem xf(hg:gX N ops f gd)(h:Ls P N ops Kn rest (yo f d undef) w):Ls P N ops Kn (⟨some d,op,ty,pos,aft,gd⟩::rest) f w:=by
 unfold Ls wpList;rw[if_neg (hg.to _ _ _ _ _),qj];exact h
theorem UO(hg:gX N ops f gd)(h:Ls P N ops Kn rest f w):Ls P N ops Kn (⟨none,op,ty,pos,aft,gd⟩::rest) f w:=by
 unfold Ls wpList;rw[if_neg (hg.to _ _ _ _ _)];exact h
theorem enter{g:FuncId}{fn:Func}{c:Code}{args:Array Value}{R:Ending->World->Prop}(hf:P.funcs[g]?=some fn)(hb:fn.body=some c)(hN:fn.ntmps=N)(ha:ny args.size N=true)
  (h:W P N c (λf w=>∃v,(results fn (fr f N).tmps).run P w=.ok v w/\R (.returned v) w) (λ_ _ _=>False) (λf w=>∃v,(results fn (fr f N).tmps).run P w=.ok v w/\R (.returned v) w) (λi=>args.getD i undef) w) :
  Calls P g args w R:=by
 refine calls_of_wp hf hb ?_;have e:({tmps:=args++nY (fn.ntmps - args.size) undef,defers:=[] }:Act)=fr (λi=>args.getD i undef) N:=by
  unfold fr
  congr 1
  have LL:args.size<=N:=by simpa using ha
  apply Array.ext
  ·simp[hN];omega
  ·intro i h1 h2;simp only[Array.getElem_ofFn,Array.getElem_append]
   split<;>simp_all
 rw[e];refine wp_mono h ?_;intro e a w hq;cases e with
 |normal=>obtain⟨f',rfl,v,h1,h2⟩:=hq;exact⟨rfl,v,h1,h2⟩
 |exit id=>obtain⟨_,_,h⟩:=hq;exact h.elim
 |ret=>obtain⟨f',rfl,v,h1,h2⟩:=hq;exact⟨rfl,v,h1,h2⟩
 |goto l=>exact hq.elim
 |panic c=>exact hq.elim
 |outgrown=>exact hq.elim
end rules
section drawn
variable {P:Program} {N:Nat} {Kn:Fm->World->Prop} {Ke:Nat->Fm->World->Prop} {Kr:Fm->World->Prop} {f:Fm} {w:World} {ops:Array Oper} {S:World->Prop}
def lF(ops:Array Oper):List (Nat×Bool)->Array Bool->Bool
 |[],listed=>(Region.ready .any ops listed).isEmpty
 |(i,quiet)::s,listed=>(Region.ready .any ops listed).contains i && (if quiet then Region.free .any ops listed i else Region.ready .any ops listed ==[i]) && lF ops s (listed.setIfInBounds i true)
def Dw(P:Program)(N:Nat)(ops:Array Oper)(S:World->Prop)(Kn:Fm->World->Prop):List (Nat×Bool)->Fm->World->Prop
 |[],f,w=>Kn f w
 |(i,quiet)::s,f,w=>if quiet then
   ∃o v f',ops[i]?=some o/\YieldsIf P ops S o v (fr f N)/\(fr f N).put o.dst v=fr f' N/\S w/\Dw P N ops S Kn s f' w
  else wpOp P ops (Ot N Kn (λ_ _ _=>False) (λ_ _=>False)) i (λa' w'=>S w'/\∃f',a'=fr f' N/\Dw P N ops S Kn s f' w') (fr f N) w
theorem He(hs:Region.noSelect ops=true):∀(s:List (Nat×Bool)) (listed:Array Bool) (f:Fm) (w:World),lF ops s listed=true->Dw P N ops S Kn s f w->
  wpAnyH P .any ops (Ot N Kn (λ_ _ _=>False) (λ_ _=>False)) S s.length listed (fr f N) w
 |[],listed,f,w,hc,h=>by
  refine wpAnyH_done ?_ ⟨f,rfl,h⟩ _
  simpa [lF] using hc
 |(i,true)::s,listed,f,w,hc,h=>by
  simp only[lF,ab,if_true]at hc;obtain⟨⟨hr,hf⟩,LM⟩:=hc;simp only[Dw,if_true]at h;obtain⟨o,v,f',ho,hy,hp,hS,hd⟩:=h;refine wpAnyH_take ho hs hf hr (λc a w hq=>hq.elim) hy hS ?_;rw[hp];exact He hs s _ f' w LM hd
 |(i,false)::s,listed,f,w,hc,h=>by
  simp only[lF,ab,au,if_false,beq_iff_eq]at hc;obtain⟨⟨_,hr⟩,LM⟩:=hc;simp only[Dw,au,if_false]at h;refine wpAnyH_all hr (by simp) ?_;intro j hj;simp only[ct]at hj;subst hj;refine wpOp_mono ?_ h
  rintro a' w' ⟨hS,f',rfl,hd⟩
  exact⟨hS,He hs s _ f' w' LM hd⟩
variable {s:List (Nat×Bool)} {i d:Nat} {op:Op} {ty:TypeId} {pos:String} {aft:Array Edge} {gd:Option (Nat×Bool)}
end drawn
section ops
variable {P:Program} {ρ:Operand->Value} {w:World} {dst:Option Tmp} {ty:TypeId} {pos:String} {aft:Array Edge} {gd:Option (Nat×Bool)}
theorem fN{x:Operand}{v:Value}(hx:ρ x=v):(execOp ρ ⟨dst,.move x,ty,pos,aft,gd⟩).run P w=.ok (.value v) w:=by
 subst hx;rfl
theorem hY{x:Operand}{v:Value}(hx:ρ x=v):(execOp ρ ⟨dst,.assign x,ty,pos,aft,gd⟩).run P w=.ok (.value v) w:=by
 subst hx;rfl
theorem I1{c x y:Operand}{v:Value}(hc:ρ c=.bool true)(hx:ρ x=v):(execOp ρ ⟨dst,.pick c x y,ty,pos,aft,gd⟩).run P w=.ok (.value v) w:=by
 simp[execOp,hc,hx,asBool]
theorem I0{c x y:Operand}{v:Value}(hc:ρ c=.bool false)(hy:ρ y=v):(execOp ρ ⟨dst,.pick c x y,ty,pos,aft,gd⟩).run P w=.ok (.value v) w:=by
 simp[execOp,hc,hy,asBool]
theorem WZ{x:Operand}{b:Bool}{T:TypeId}(hx:ρ x=.bool b):(execOp ρ ⟨dst,.unOp .not T x,ty,pos,aft,gd⟩).run P w=.ok (.value (.bool (!b))) w:=by
 simp[execOp,hx,Op.unary]
theorem Lg(a b:Int):(a ==b)=decide (a=b):=by
 by_cases h:a=b<;>simp[h]
section int
variable {x y:Operand} {a b:Int} {T T':TypeId} {ik:IntKind}
theorem IZ{r:Bool}(hx:ρ x=.int ik a)(hy:ρ y=.int ik b)(hr:decide (a < b)=r):(execOp ρ ⟨dst,.binOp .lss T x y T',ty,pos,aft,gd⟩).run P w=.ok (.value (.bool r)) w:=by
 subst hr;simp[execOp,hx,hy,binOp,Op.intCmp,eqGuard]
theorem af2{r:Bool}(hx:ρ x=.int ik a)(hy:ρ y=.int ik b)(hr:decide (a<=b)=r):(execOp ρ ⟨dst,.binOp .leq T x y T',ty,pos,aft,gd⟩).run P w=.ok (.value (.bool r)) w:=by
 subst hr;simp[execOp,hx,hy,binOp,Op.intCmp,eqGuard]
theorem af1{r:Bool}(hx:ρ x=.int ik a)(hy:ρ y=.int ik b)(hr:decide (b < a)=r):(execOp ρ ⟨dst,.binOp .gtr T x y T',ty,pos,aft,gd⟩).run P w=.ok (.value (.bool r)) w:=by
 subst hr;simp[execOp,hx,hy,binOp,Op.intCmp,eqGuard]
theorem af0{r:Bool}(hx:ρ x=.int ik a)(hy:ρ y=.int ik b)(hr:decide (b<=a)=r):(execOp ρ ⟨dst,.binOp .geq T x y T',ty,pos,aft,gd⟩).run P w=.ok (.value (.bool r)) w:=by
 subst hr;simp[execOp,hx,hy,binOp,Op.intCmp,eqGuard]
theorem afZ{r:Bool}(hx:ρ x=.int ik a)(hy:ρ y=.int ik b)(hr:decide (a=b)=r):(execOp ρ ⟨dst,.binOp .eql T x y T',ty,pos,aft,gd⟩).run P w=.ok (.value (.bool r)) w:=by
 subst hr;simp[execOp,hx,hy,binOp,Op.intCmp,eqGuard];exact Lg a b
theorem af3{r:Bool}(hx:ρ x=.int ik a)(hy:ρ y=.int ik b)(hr:decide (a=b)=!r):(execOp ρ ⟨dst,.binOp .neq T x y T',ty,pos,aft,gd⟩).run P w=.ok (.value (.bool r)) w:=by
 have:r=!decide (a=b):=by rw[hr];simp
 subst this;simp[execOp,hx,hy,binOp,Op.intCmp,eqGuard,bne];exact Lg a b
theorem MV(hx:ρ x=.int .i64 a)(hy:ρ y=.int .i64 b)(hr:-9223372036854775808<=a+b/\a+b<=9223372036854775807):(execOp ρ ⟨dst,.binOp .add T x y T',ty,pos,aft,gd⟩).run P w=.ok (.value (.int .i64 (a+b))) w:=by
 simp[execOp,hx,hy,binOp,Op.intArith,eqGuard];exact IntWalk.i64_in _ (by omega)
end int
theorem mh(a b:ByteArray):(a.toList ==b.toList)=decide (a=b):=by
 rw[cU];simp only[beq_iff_eq,decide_eq_true_eq,ByteArray.toList_eq]
 constructor
 ·intro h;cases a;cases b;simp at h;simp[h]
 ·rintro rfl;rfl
section str
variable {x y:Operand} {a b:ByteArray} {T T':TypeId}
theorem ZZ{r:Bool}(hx:ρ x=.string a)(hy:ρ y=.string b)(hr:decide (a=b)=r):(execOp ρ ⟨dst,.binOp .eql T x y T',ty,pos,aft,gd⟩).run P w=.ok (.value (.bool r)) w:=by
 subst hr;simp[execOp,hx,hy,binOp,Op.stringOp,eqGuard,mh]
theorem Z1{r:Bool}(hx:ρ x=.string a)(hy:ρ y=.string b)(hr:decide (a=b)=!r):(execOp ρ ⟨dst,.binOp .neq T x y T',ty,pos,aft,gd⟩).run P w=.ok (.value (.bool r)) w:=by
 have:r=!decide (a=b):=by rw[hr];simp
 subst this;simp[execOp,hx,hy,binOp,Op.stringOp,eqGuard,mh]
end str
section jq
variable {x y:Operand} {a b:Bool} {T T':TypeId}
theorem ZX{r:Bool}(hT:P.underlying T=some .bool)(hx:ρ x=.bool a)(hy:ρ y=.bool b)(hr:decide (a=b)=r):(execOp ρ ⟨dst,.binOp .eql T x y T',ty,pos,aft,gd⟩).run P w=.ok (.value (.bool r)) w:=by
 have e:(a ==b)=r:=by subst hr;cases a<;>cases b<;>rfl
 simp[execOp,hx,hy,eqGuard,run_eql_bool w T a b hT,e]
theorem ZY{r:Bool}(hT:P.underlying T=some .bool)(hx:ρ x=.bool a)(hy:ρ y=.bool b)(hr:decide (a=b)=!r):(execOp ρ ⟨dst,.binOp .neq T x y T',ty,pos,aft,gd⟩).run P w=.ok (.value (.bool r)) w:=by
 have e:(a ==b)=!r:=by cases a<;>cases b<;>cases r<;>simp_all
 simp[execOp,hx,hy,eqGuard,run_neq_bool w T a b hT,e]
end jq
theorem DZ{x:Operand}{A:Option Addr}{n c:Nat}{T E:TypeId}(hU:P.underlying T=some (.slice E))(hx:ρ x=.slice A n c) :
  (execOp ρ ⟨dst,.call {callee:=.builtin .len,args:=#[x],argTypes:=#[T] },ty,pos,aft,gd⟩).run P w=.ok (.value (.int .i64 n)) w:=by
 simp[execOp,resolve,invoke,builtin,Builtin.len_,hx,run_underlying hU,goInt]
theorem Z0{x:Operand}{s:ByteArray}{T:TypeId}(hU:P.underlying T=some .string)(hx:ρ x=.string s) :
  (execOp ρ ⟨dst,.call {callee:=.builtin .len,args:=#[x],argTypes:=#[T] },ty,pos,aft,gd⟩).run P w=.ok (.value (.int .i64 s.size)) w:=by
 simp[execOp,resolve,invoke,builtin,Builtin.len_,hx,run_underlying hU,goInt]
theorem qF{x y:Operand}{b o n c:Nat}{i:Nat}{a:Int}{T E:TypeId}{k:Nat}(hU:P.underlying T=some (.slice E))(hS:∀w,(kB E).run P w=.ok k w)(hx:ρ x=.slice (some ⟨b,o,none⟩) n c)(hy:ρ y=.int .i64 a)(ha:a=(i:Int))(hi:i < n) :
  (execOp ρ ⟨dst,.indexAddr T x y,ty,pos,aft,gd⟩).run P w=.ok (.value (.pointer (some ⟨b,o+i * k,none⟩))) w:=by
 subst ha;have h0:(0:Int)<=(i:Int)/\(i:Int) < (n:Int):=by omega
 simp[execOp,Instr.indexAt,hx,hy,asIntOf,run_underlying hU,hS,nH,hi]
theorem S7{x y:Operand}{A:Option Addr}{b o n c:Nat}{i:Nat}{a:Int}{T E:TypeId}{k:Nat}(hU:P.underlying T=some (.slice E))(hS:∀w,(kB E).run P w=.ok k w)(hx:ρ x=.slice A n c)(hA:A=some ⟨b,o,none⟩)(hy:ρ y=.int .i64 a)(ha:a=(i:Int))(hi:i < n) :
  (execOp ρ ⟨dst,.indexAddr T x y,ty,pos,aft,gd⟩).run P w=.ok (.value (.pointer (some ⟨b,o+i * k,none⟩))) w:=qF hU hS (hx.trans (by rw[hA])) hy ha hi
def da(s:ByteArray)(i:Nat):Int:=((s[i]?.getD 0).toNat:Int)
theorem pY(s:ByteArray)(i:Nat):0<=da s i/\da s i<=255:=by
 unfold da;have:=(s[i]?.getD 0).toNat_lt;omega
theorem S8{x y:Operand}{s:ByteArray}{i:Nat}{a:Int}{T:TypeId}(hU:P.underlying T=some .string)(hx:ρ x=.string s)(hy:ρ y=.int .i64 a)(ha:a=(i:Int))(hi:i < s.size) :
  (execOp ρ ⟨dst,.index T x y,ty,pos,aft,gd⟩).run P w=.ok (.value (.int .u8 (da s i))) w:=by
 subst ha;simp[execOp,Instr.index,hx,hy,asIntOf,run_underlying hU,da,hi]
theorem MW{x:Operand}{b o j k:Nat}{T:TypeId}{fs:Array Field}{i:Nat}{fd:Field}(hU:P.underlying T=some (.struct fs))(hF:fs[i]?=some fd)(hS:∀w,(kB fd.type).run P w=.ok (k+1) w)(hj:fd.offset=j)(hx:ρ x=.pointer (some ⟨b,o,none⟩)) :
  (execOp ρ ⟨dst,.fieldAddr T x i,ty,pos,aft,gd⟩).run P w=.ok (.value (.pointer (some ⟨b,o+j,none⟩))) w:=by
 subst hj;simp[execOp,Instr.fieldAt,hx,Instr.sureAddr,run_underlying hU,hF,fieldPlace,hS,nH]
theorem K6{x y:Operand}{A:Option Addr}{n c h:Nat}{a:Int}{T E:TypeId}{k:Nat}(hU:P.underlying T=some (.slice E))(hS:∀w,(kB E).run P w=.ok k w)(hx:ρ x=.slice A n c)(hy:ρ y=.int .i64 a)(ha:a=(h:Int))(hh:h<=c) :
  (execOp ρ ⟨dst,.slice T x none (some y) none,ty,pos,aft,gd⟩).run P w=.ok (.value (.slice A h c)) w:=by
 subst ha;have e:A.map (λz=>z.add 0)=A:=by cases A<;>simp[Addr.add]
 simp[execOp,Instr.sliceAt,Instr.slice,Instr.sliceBounds,Instr.sliceBound,hx,hy,asIntOf,run_underlying hU,hS,hh,e]
def I6(ρ:Operand->Value):Option Operand->Nat->Nat->Prop
 |none,z,m=>m=z
 |some y,_,m=>ρ y=.int .i64 (m:Int)
theorem B2{x:Operand}{lo hi:Option Operand}{A:Option Addr}{n c l h:Nat}{T E:TypeId}{k:Nat}(hU:P.underlying T=some (.slice E))(hS:∀w,(kB E).run P w=.ok k w)(hx:ρ x=.slice A n c)(hl:I6 ρ lo 0 l)(hh:I6 ρ hi n h)(h1:l<=h)(h2:h<=c) :
  (execOp ρ ⟨dst,.slice T x lo hi none,ty,pos,aft,gd⟩).run P w=.ok (.value (.slice (if c=l then A else A.map (λz=>z.add (l * k))) (h - l) (c - l))) w:=by
 cases lo with
 |none=>
  cases hi with
  |none=>simp only[I6]at hl hh;subst hl hh;simp[execOp,Instr.sliceAt,Instr.slice,Instr.sliceBounds,hx,run_underlying hU,hS]
  |some z=>simp only[I6]at hl hh;subst hl;simp[execOp,Instr.sliceAt,Instr.slice,Instr.sliceBounds,Instr.sliceBound,hx,hh,asIntOf,run_underlying hU,hS,h2]
 |some y=>
  cases hi with
  |none=>simp only[I6]at hl hh;subst hh;simp[execOp,Instr.sliceAt,Instr.slice,Instr.sliceBounds,Instr.sliceBound,hx,hl,asIntOf,run_underlying hU,hS,h1]
  |some z=>simp only[I6]at hl hh;simp[execOp,Instr.sliceAt,Instr.slice,Instr.sliceBounds,Instr.sliceBound,hx,hl,hh,asIntOf,run_underlying hU,hS,h1,h2]
theorem S9{x:Operand}{lo hi:Option Operand}{t:ByteArray}{l h:Nat}{T:TypeId}(hU:P.underlying T=some .string)(hx:ρ x=.string t)(hl:I6 ρ lo 0 l)(hh:I6 ρ hi t.size h)(h1:l<=h)(h2:h<=t.size) :
  (execOp ρ ⟨dst,.slice T x lo hi none,ty,pos,aft,gd⟩).run P w=.ok (.value (.string (t.extract l h))) w:=by
 cases lo with
 |none=>
  cases hi with
  |none=>simp only[I6]at hl hh;subst hl hh;simp[execOp,Instr.sliceAt,Instr.slice,Instr.sliceBounds,hx,run_underlying hU]
  |some z=>simp only[I6]at hl hh;subst hl;simp[execOp,Instr.sliceAt,Instr.slice,Instr.sliceBounds,Instr.sliceBound,hx,hh,asIntOf,run_underlying hU,h2]
 |some y=>
  cases hi with
  |none=>simp only[I6]at hl hh;subst hh;simp[execOp,Instr.sliceAt,Instr.slice,Instr.sliceBounds,Instr.sliceBound,hx,hl,asIntOf,run_underlying hU,h1]
  |some z=>simp only[I6]at hl hh;simp[execOp,Instr.sliceAt,Instr.slice,Instr.sliceBounds,Instr.sliceBound,hx,hl,hh,asIntOf,run_underlying hU,h1,h2]
theorem Gl{x:Operand}{b o:Nat}{T:TypeId}{v:Value}(hA:∀w,(isAgg T).run P w=.ok false w)(hx:ρ x=.pointer (some ⟨b,o,none⟩))(hc:w.cell? ⟨b,o,none⟩=some v) :
  (execOp ρ ⟨dst,.load T x,ty,pos,aft,gd⟩).run P w=.ok (.value v) w:=by
 simp[execOp,Instr.loadAt,hx,Instr.sureAddr,loadVar,hA,load,Sem.run,hc]
theorem run_loadCellsFrom{b o:Nat}:∀(cs:List Value) (i:Nat) (acc:Array Value),gz w b (o+i) cs->(loadCellsFrom ⟨b,o,none⟩ i cs.length acc).run P w=.ok (acc++cs.toArray) w
 |[],i,acc,_=>by simp[loadCellsFrom]
 |c::cs,i,acc,h=>by
  have h0:=h 0 c (by simp);rw[eA]at h0;have ih:=run_loadCellsFrom cs (i+1) (acc.push c) (λj u hu=>by
   have:=h (j+1) u (by simpa using hu);rw[show o+(i+1)+j=o+i+(j+1) from by omega];exact this)
  simp[loadCellsFrom,load,Sem.run,nH,h0,ih]
theorem Gn{x:Operand}{b o:Nat}{T:TypeId}{cs:List Value}{k:Nat}(hA:∀w,(isAgg T).run P w=.ok true w)(hS:∀w,(kB T).run P w=.ok k w)(hx:ρ x=.pointer (some ⟨b,o,none⟩))(hl:cs.length=k)(hc:gz w b o cs) :
  (execOp ρ ⟨dst,.load T x,ty,pos,aft,gd⟩).run P w=.ok (.value (.agg cs.toArray)) w:=by
 subst hl;have h:=run_loadCellsFrom (P:=P) (w:=w) (b:=b) (o:=o) cs 0 #[] (by simpa using hc);simp[execOp,Instr.loadAt,hx,Instr.sureAddr,loadVar,hA,hS,loadCells,h]
def one:Value->Bool
 | .agg _=>false
 | .tuple _=>false
 |_=>true
theorem BI{g i:Nat}{t:TypeId}{cs:List Value}{v:Value}{α:Type}(k:Sem α)(hb:kX w g t cs)(hi:i < cs.length)(h1:one v=true) :
  (Sem.store .plain ⟨g,i,none⟩ v k).run P w=k.run P (gk w g (.cells (cs.set i v).toArray t (0,0))):=by
 have hc:w.cell? ⟨g,i,none⟩=some cs[i]:=by rw[hb.cell];simp[hi]
 have hf:=hb.frozen i;rw[<- IG hb];cases v<;>simp_all[Sem.run,one]
theorem VR{x y:Operand}{g o:Nat}{T t:TypeId}{cs:List Value}{v:Value}(hS:∀w,(kB T).run P w=.ok 1 w)(hx:ρ x=.pointer (some ⟨g,o,none⟩))(hy:ρ y=v)(h1:one v=true)(hb:kX w g t cs)(hi:o < cs.length) :
  (execOp ρ ⟨dst,.store T x y,ty,pos,aft,gd⟩).run P w=.ok .skip (gk w g (.cells (cs.set o v).toArray t (0,0))):=by
 have hc:v.cells=#[v]:=by cases v<;>simp_all[Value.cells,one]
 simp[execOp,Instr.storeAt,hx,hy,Instr.sureAddr,storeVar,hS,hc,storeCells,store,Addr.add,BI _ hb hi h1]
def cZ(cs:List Value)(i:Nat)(vs:List Value):List Value:=cs.take i++vs++cs.drop (i+vs.length)
theorem DS(w:World)(g:Nat)(o o':Obj):gk (gk w g o) g o'=gk w g o':=by
 simp[gk]
theorem yk(cs:List Value)(i:Nat)(v:Value)(vs:List Value)(h:i+(vs.length+1)<=cs.length):cZ (cs.set i v) (i+1) vs=cZ cs i (v::vs):=by
 unfold cZ
 apply ed
 intro k;simp only[uH,aO,aY,List.length_set,aE,dt,iu,gW,List.getElem?_cons]
 grind
theorem lz{g:Nat}{t:TypeId}{o:Nat}:∀(vs:List Value) (i:Nat) (w:World) (cs:List Value),kX w g t cs->o+i+vs.length<=cs.length->(∀v∈vs,one v=true)->
  (storeCells ⟨g,o,none⟩ vs i).run P w=.ok () (gk w g (.cells (cZ cs (o+i) vs).toArray t (0,0)))
 |[],i,w,cs,hb,_,_=>by
  have:gk w g (.cells (cZ cs (o+i) []).toArray t (0,0))=w:=by
   have h2:=hb;unfold kX at h2;simp only[cZ,aD,aQ,eA,a_];have ic:=hb.lt;unfold gk;have:w.heap.setIfInBounds g (.cells cs.toArray t (0,0))=w.heap:=by
    apply Array.ext
    ·simp
    ·intro k h1 h3;rw[Array.getElem_setIfInBounds];split
     ·rename_i e;subst e;rw[pT h3]at h2;exact (eJ h2).symm
     ·rfl
   rw[this]
  simp[storeCells,this]
 |v::vs,i,w,cs,hb,hl,h1=>by
  simp only[aE]at hl;have hs:(cs.set (o+i) v).length=cs.length:=by simp
  have ih:=lz (o:=o) vs (i+1) (gk w g (.cells (cs.set (o+i) v).toArray t (0,0))) (cs.set (o+i) v) (hb.kz t _) (by rw[hs];omega) (λu hu=>h1 u (by simp[hu]));rw[DS,show o+(i+1)=o+i+1 from by omega,yk cs (o+i) v vs (by omega)]at ih;simp only[storeCells,store,nH];have h2:=BI (P:=P) (Sem.pure ()) hb (show o+i < cs.length by omega) (h1 v (by simp));simp only[Sem.run_bind,h2,Sem.run,Result.andThen_ok];exact ih
theorem xH{F:FuncId}{as:Array Operand}{ts:Array TypeId}{vs:Array Value}(hC:∀(args:Array Value) (w:World),(callFunc F args).run P w=.ok (.enter F args) w)(hF:ρ (.func F)=.func (.func F) #[] #[])(ha:as.map ρ=vs) :
  (execOp ρ ⟨dst,.call {callee:=.value (.func F),args:=as,argTypes:=ts },ty,pos,aft,gd⟩).run P w=.ok (.enter F vs) w:=by
 subst ha;simp[execOp,resolve,Deferred.ofValue,hF,invoke,hC]
theorem a1{x:Operand}{u:Value}(h:ρ x=u):(#[x]:Array Operand).map ρ=#[u]:=by simp[h]
theorem a2{x y:Operand}{u v:Value}(h:ρ x=u)(h':ρ y=v):(#[x,y]:Array Operand).map ρ=#[u,v]:=by simp[h,h']
theorem a3{x y z:Operand}{u v q:Value}(h:ρ x=u)(h':ρ y=v)(h2:ρ z=q):(#[x,y,z]:Array Operand).map ρ=#[u,v,q]:=by simp[h,h',h2]
theorem a4{x y z t:Operand}{u v q r:Value}(h:ρ x=u)(h':ρ y=v)(h2:ρ z=q)(h3:ρ t=r):(#[x,y,z,t]:Array Operand).map ρ=#[u,v,q,r]:=by simp[h,h',h2,h3]
theorem a5{x y z t s:Operand}{u v q r p:Value}(h:ρ x=u)(h':ρ y=v)(h2:ρ z=q)(h3:ρ t=r)(h4:ρ s=p):(#[x,y,z,t,s]:Array Operand).map ρ=#[u,v,q,r,p]:=by simp[h,h',h2,h3,h4]
theorem OK{x:Operand}{vs:Array Value}{i:Nat}{v:Value}(hx:ρ x=.tuple vs)(hi:vs[i]?=some v):(execOp ρ ⟨dst,.extract x i,ty,pos,aft,gd⟩).run P w=.ok (.value v) w:=by
 simp[execOp,Instr.extract,hx,hi]
end ops
theorem V3{p:Prop}[Decidable p](h:p):decide p=true:=by simp[h]
theorem V2{p:Prop}[Decidable p](h:¬p):decide p=false:=by simp[h]
theorem VO{k:IntKind}{a b:Int}(h:a=b):Value.int k a=Value.int k b:=by rw[h]
section aif
variable {P:Program} {N:Nat} {f:Fm} {w:World} {fn:Func}
theorem DM{t:Tmp}{v:Value}(h:fn.results=#[.tmp t])(hv:f t=v)(ht:fh t N=true:=by rfl):(results fn (fr f N).tmps).run P w=.ok v w:=by
 have ic:t < N:=by simpa using ht
 rw[results_tmp h];simp[fr,ic,hv]
end aif
def ri(P:Program)(N:Nat)(o:Oper)(f:Fm)(w:World)(K:Fm->World->Prop):Prop:=
 o.wp P (fr f N) w (λa' w'=>∃f',a'=fr f' N/\K f' w') (λ_ _ _=>False)
structure Tj (g:Nat) (w w':World):Prop where
 os:w'.os=w.os
 tape:w'.tape=w.tape
 output:w'.output=w.output
 size:w'.heap.size=w.heap.size
 block:∀k,k≠g->w'.heap[k]?=w.heap[k]?
 fz:∀o,w'.frozen? ⟨g,o,none⟩=false
theorem Tj.gk(w:World)(g:Nat)(cs:Array Value)(t:TypeId):Tj g w (gk w g (.cells cs t (0,0))):=by
 refine⟨rfl,rfl,rfl,fD w g _,λk hk=>Nw w g _ k hk,λo=>?_⟩;rcases cY g w.heap.size with hl|hl
 ·simp[World.frozen?,Go.Proofs.YtcdjbelccndadaaGreatDoor.gk,hl]
 ·exact tU (by rw[fD];exact hl) o
theorem kX.off{w w':World}{g k:Nat}{t:TypeId}{cs:List Value}(h:kX w g t cs)(ho:Tj k w w')(iO:g≠k):kX w' g t cs:=h.cG (ho.block g iO)
section
variable {P:Program} {N:Nat} {ops:Array Oper} {Kn:Fm->World->Prop} {rest:List Oper} {f:Fm} {w:World} {o:Oper} {S:World->Prop} {s:List (Nat×Bool)} {i:Nat} {K:Fm->World->Prop}
theorem ri.ZM{Q:Exit->Act->World->Prop}{K':Act->World->Prop}(h:ri P N o f w K)(hK:∀f' w',K f' w'->K' (fr f' N) w'):o.wp P (fr f N) w K' Q:=by
 unfold ri Oper.wp at h;unfold Oper.wp;generalize (execOp (fr f N).eval o).run P w=r at *;cases r with
 |ok n w'=>
  cases n<;>simp only[Oper.upon]at h ⊢
  case value v=>obtain⟨f',e,hk⟩:=h;rw[e];exact hK _ _ hk
  case skip=>obtain⟨f',e,hk⟩:=h;rw[e];exact hK _ _ hk
  case defer d=>obtain⟨f',e,hk⟩:=h;rw[e];exact hK _ _ hk
  case enter g args=>
   refine Calls.mono h λe w'' he=>?_;cases e with
   |returned v=>obtain⟨f',e,hk⟩:=he;show K' _ _;rw[e];exact hK _ _ hk
   |panicked c=>exact he.elim
   |outgrown=>obtain⟨_,_,h⟩:=he;exact h.elim
  case row r args=>exact Rows.mono h λv w'' he=>by obtain⟨f',e,hk⟩:=he;rw[e];exact hK _ _ hk
 |halt x w'=>
  cases x<;>simp only[Oper.upon]at h
theorem eP(hg:oq N ops f o.guard)(h:ri P N o f w (λf' w'=>Ls P N ops Kn rest f' w')):Ls P N ops Kn (o::rest) f w:=by
 unfold Ls wpList;rw[if_pos (show Region.wanted o _=true from hg)];exact .inl (h.ZM λ_ _ hk=>hk)
end
section
variable {P:Program} {N:Nat} {f:Fm} {w:World} {K:Fm->World->Prop} {d:Nat} {ty:TypeId} {pos:String} {aft:Array Edge} {gd:Option (Nat×Bool)}
theorem cX{op:Op}{v:Value}(hr:(execOp (fr f N).eval ⟨some d,op,ty,pos,aft,gd⟩).run P w=.ok (.value v) w)(h:K (yo f d v) w):ri P N ⟨some d,op,ty,pos,aft,gd⟩ f w K:=by
 unfold ri Oper.wp;rw[hr,Oper.upon_value];exact⟨_,qj f N d v,h⟩
theorem sn{op:Op}{v:Value}{w':World}(hr:(execOp (fr f N).eval ⟨some d,op,ty,pos,aft,gd⟩).run P w=.ok (.value v) w')(h:K (yo f d v) w'):ri P N ⟨some d,op,ty,pos,aft,gd⟩ f w K:=by
 unfold ri Oper.wp;rw[hr,Oper.upon_value];exact⟨_,qj f N d v,h⟩
theorem FF{op:Op}{w':World}(hr:(execOp (fr f N).eval ⟨none,op,ty,pos,aft,gd⟩).run P w=.ok .skip w')(h:K f w'):ri P N ⟨none,op,ty,pos,aft,gd⟩ f w K:=by
 unfold ri Oper.wp;rw[hr,Oper.upon_skip];exact⟨_,rfl,h⟩
theorem xj{op:Op}{g:FuncId}{args:Array Value}(hr:(execOp (fr f N).eval ⟨some d,op,ty,pos,aft,gd⟩).run P w=.ok (.enter g args) w){R:Ending->World->Prop}(hc:Calls P g args w R)
  (h:∀e w',R e w'->∃v,e=.returned v/\K (yo f d v) w'):ri P N ⟨some d,op,ty,pos,aft,gd⟩ f w K:=by
 unfold ri Oper.wp;rw[hr,Oper.upon_enter];refine hc.mono λe w' he=>?_;obtain⟨v,rfl,hl⟩:=h e w' he;exact⟨_,qj f N d v,hl⟩
theorem DH{op:Op}{T:TypeId}{cs:List Value}{v:Value}(hr:(execOp (fr f N).eval ⟨some d,op,ty,pos,aft,gd⟩).run P w=.ok (.value v) (w.alloc (.cells cs.toArray T)))
  (h:∀w1:World,w1.heap.size=w.heap.size+1->D3 w.heap.size w w1->kX w1 w.heap.size T cs->K (yo f d v) w1):ri P N ⟨some d,op,ty,pos,aft,gd⟩ f w K:=
 sn hr (h _ (size_alloc _ _) (CG _ _ _) (kX.new _ _ _))
end
attribute [irreducible] ri Ls W Dw
end
section
open Go.RowKit
inductive D where
 |int (k:IntKind) (n:Int)
 |bool (b:Bool)
 |str (s:ByteArray)
 |list (k:Nat) (fl:Bool) (es:List (List D))
instance:Inhabited D:=⟨.bool false⟩
def D.plain:D->Bool
 | .list _ _ _=>false
 |_=>true
def flat(es:List (List D)):Prop:=∀e∈es,∀x∈e,D.plain x=true
theorem ja:flat []:=λ_ h=>by simp at h
abbrev Fp:=List (Nat×Nat)
mutual
def Rp(w:World):D->Value->Fp->Prop
 | .int k n,v,F=>v=.int k n/\F=[]/\k.wrap n=n
 | .bool b,v,F=>v=.bool b/\F=[]
 | .str s,v,F=>v=.string s/\F=[]/\s.size<=maxLen
 | .list k fl es,v,F=>∃A n c,v=.slice A n c/\n=es.length/\n<=c/\c<=maxLen/\(fl=true->flat es)/\0 < k/\(∀e∈es,e.length=k)/\
   ((n=0/\F=[])\/(0 < n/\∃b o xs G,A=some ⟨b,o,none⟩/\F=(b,o+n * k)::G/\eD w es xs G/\gz w b o xs))
def ee(w:World):List D->List Value->Fp->Prop
 |[],vs,F=>vs=[]/\F=[]
 |d::ds,vs,F=>∃v eb F1 F2,vs=v::eb/\F=F1++F2/\Rp w d v F1/\ee w ds eb F2
def eD(w:World):List (List D)->List Value->Fp->Prop
 |[],vs,F=>vs=[]/\F=[]
 |e::es,vs,F=>∃v1 v2 F1 F2,vs=v1++v2/\F=F1++F2/\ee w e v1 F1/\eD w es v2 F2
end
def rz(F:Fp)(w w':World):Prop:=∀be∈F,∀j,j < be.2->w'.cell? ⟨be.1,j,none⟩=w.cell? ⟨be.1,j,none⟩
theorem rz.left{F G:Fp}{w w':World}(h:rz (F++G) w w'):rz F w w':=λbe hb=>h be (by simp[hb])
theorem rz.right{F G:Fp}{w w':World}(h:rz (F++G) w w'):rz G w w':=λbe hb=>h be (by simp[hb])
theorem ee.length{w:World}:∀(ds:List D) {vs:List Value} {F:Fp},ee w ds vs F->vs.length=ds.length
 |[],_,_,h=>by simp only[ee]at h;simp[h.1]
 |d::ds,_,_,h=>by
  simp only[ee]at h;obtain⟨v,eb,F1,F2,rfl,_,_,h4⟩:=h;simp[ee.length ds h4]
theorem eD.length{w:World}{k:Nat}:∀(es:List (List D)) {vs:List Value} {F:Fp},eD w es vs F->(∀e∈es,e.length=k)->vs.length=es.length * k
 |[],_,_,h,_=>by simp only[eD]at h;simp[h.1]
 |e::es,_,_,h,hk=>by
  simp only[eD]at h;obtain⟨v1,v2,F1,F2,rfl,_,h3,h4⟩:=h;simp only[aO,aE,ee.length e h3,eD.length es h4 (λx hx=>hk x (by simp[hx])),hk e (by simp),iE];omega
theorem gz.abQ{w w':World}{b o n:Nat}{xs:List Value}(h:gz w b o xs)(hn:o+xs.length<=n)(hk:∀j,j < n->w'.cell? ⟨b,j,none⟩=w.cell? ⟨b,j,none⟩):gz w' b o xs:=by
 intro j u hu;have hj:=(aI.1 hu).1;rw[hk (o+j) (by omega)];exact h j u hu
mutual
theorem Rp.cG{w w':World}:∀(d:D) {v:Value} {F:Fp},Rp w d v F->rz F w w'->Rp w' d v F
 | .int _ _,_,_,h,_=>by simpa only [Rp] using h
 | .bool _,_,_,h,_=>by simpa only [Rp] using h
 | .str _,_,_,h,_=>by simpa only [Rp] using h
 | .list k fl es,_,_,h,hk=>by
  simp only[Rp]at h ⊢;obtain⟨A,n,c,h1,h2,h3,h4,hf,h6,h7,h5⟩:=h;refine⟨A,n,c,h1,h2,h3,h4,hf,h6,h7,?_⟩;rcases h5 with h5|⟨h0,b,o,xs,G,h5,h8,h9,Gv⟩
  ·exact .inl h5
  ·subst h8;have hl:=eD.length es h9 h7;refine .inr ⟨h0,b,o,xs,G,h5,rfl,eD.cG es h9 (λbe hb=>hk be (by simp[hb])),?_⟩;exact Gv.abQ (n:=o+n * k) (by rw[hl,h2];exact aj _) (hk (b,o+n * k) (by simp))
theorem ee.cG{w w':World}:∀(ds:List D) {vs:List Value} {F:Fp},ee w ds vs F->rz F w w'->ee w' ds vs F
 |[],_,_,h,_=>by simpa only [ee] using h
 |d::ds,_,_,h,hk=>by
  simp only[ee]at h ⊢;obtain⟨v,eb,F1,F2,h1,rfl,h3,h4⟩:=h;exact⟨v,eb,F1,F2,h1,rfl,Rp.cG d h3 hk.left,ee.cG ds h4 hk.right⟩
theorem eD.cG{w w':World}:∀(es:List (List D)) {vs:List Value} {F:Fp},eD w es vs F->rz F w w'->eD w' es vs F
 |[],_,_,h,_=>by simpa only [eD] using h
 |e::es,_,_,h,hk=>by
  simp only[eD]at h ⊢;obtain⟨v1,v2,F1,F2,h1,rfl,h3,h4⟩:=h;exact⟨v1,v2,F1,F2,h1,rfl,ee.cG e h3 hk.left,eD.cG es h4 hk.right⟩
end
theorem Bf{w:World}{b o:Nat}{v:Value}(h:w.cell? ⟨b,o,none⟩=some v):b < w.heap.size:=by
 unfold World.cell? at h;rcases cY b w.heap.size with hl|hl
 ·exact hl
 simp_all
mutual
theorem Rp.lt{w:World}:∀(d:D) {v:Value} {F:Fp},Rp w d v F->∀be∈F,be.1 < w.heap.size
 | .int _ _,_,_,h=>by simp only[Rp]at h;simp[h.2.1]
 | .bool _,_,_,h=>by simp only[Rp]at h;simp[h.2]
 | .str _,_,_,h=>by simp only[Rp]at h;simp[h.2.1]
 | .list k fl es,_,_,h=>by
  simp only[Rp]at h;obtain⟨A,n,c,h1,h2,h3,h4,hf,h6,h7,h5⟩:=h;rcases h5 with h5|⟨h0,b,o,xs,G,h5,h8,h9,Gv⟩
  ·simp[h5.2]
  ·subst h8;have hl:=eD.length es h9 h7;have hp:0 < xs.length:=by rw[hl,<- h2];exact Nat.mul_pos h0 h6
   have hb:=Bf (Gv 0 xs[0] (by simp[hp]));intro be n5;rcases ay.1 n5 with rfl|n5
   ·exact hb
   ·exact eD.lt es h9 be n5
theorem ee.lt{w:World}:∀(ds:List D) {vs:List Value} {F:Fp},ee w ds vs F->∀be∈F,be.1 < w.heap.size
 |[],_,_,h=>by simp only[ee]at h;simp[h.2]
 |d::ds,_,_,h=>by
  simp only[ee]at h;obtain⟨v,eb,F1,F2,h1,rfl,h3,h4⟩:=h;intro be n5;rcases aL.1 n5 with n5|n5
  ·exact Rp.lt d h3 be n5
  ·exact ee.lt ds h4 be n5
theorem eD.lt{w:World}:∀(es:List (List D)) {vs:List Value} {F:Fp},eD w es vs F->∀be∈F,be.1 < w.heap.size
 |[],_,_,h=>by simp only[eD]at h;simp[h.2]
 |e::es,_,_,h=>by
  simp only[eD]at h;obtain⟨v1,v2,F1,F2,h1,rfl,h3,h4⟩:=h;intro be n5;rcases aL.1 n5 with n5|n5
  ·exact ee.lt e h3 be n5
  ·exact eD.lt es h4 be n5
end
theorem ee.append{w:World}:∀(ds:List D) {es:List D} {vs us:List Value} {F G:Fp},ee w ds vs F->ee w es us G->ee w (ds++es) (vs++us) (F++G)
 |[],_,_,_,_,_,h,h'=>by
  simp only[ee]at h;obtain⟨rfl,rfl⟩:=h
  simpa using h'
 |d::ds,_,_,_,_,_,h,h'=>by
  obtain⟨v,eb,F1,F2,rfl,rfl,h3,h4⟩:=h;exact⟨v,_,F1,_,rfl,by simp,h3,ee.append ds h4 h'⟩
theorem eD.append{w:World}:∀(ds:List (List D)) {es:List (List D)} {vs us:List Value} {F G:Fp},eD w ds vs F->eD w es us G->eD w (ds++es) (vs++us) (F++G)
 |[],_,_,_,_,_,h,h'=>by
  simp only[eD]at h;obtain⟨rfl,rfl⟩:=h
  simpa using h'
 |d::ds,_,_,_,_,_,h,h'=>by
  obtain⟨v1,v2,F1,F2,rfl,rfl,h3,h4⟩:=h;exact⟨v1,_,F1,_,by simp,by simp,h3,eD.append ds h4 h'⟩
theorem ee.fv{w:World}:∀(ds:List D) {es:List D} {vs:List Value} {F:Fp},ee w (ds++es) vs F->∃v1 v2 F1 F2,vs=v1++v2/\F=F1++F2/\ee w ds v1 F1/\ee w es v2 F2
 |[],es,vs,F,h=>⟨[],vs,[],F,rfl,rfl,by simp[ee],by simpa using h⟩
 |d::ds,_,_,_,h=>by
  simp only[ai,ee]at h;obtain⟨v,eb,F1,F2,rfl,rfl,h3,h4⟩:=h;obtain⟨u1,u2,G1,G2,rfl,rfl,h5,h6⟩:=ee.fv ds h4;exact⟨v::u1,u2,F1++G1,G2,by simp,by simp,by simp only[ee];exact⟨v,u1,F1,G1,rfl,rfl,h3,h5⟩,h6⟩
theorem eD.fv{w:World}:∀(ds:List (List D)) {es:List (List D)} {vs:List Value} {F:Fp},eD w (ds++es) vs F->∃v1 v2 F1 F2,vs=v1++v2/\F=F1++F2/\eD w ds v1 F1/\eD w es v2 F2
 |[],es,vs,F,h=>⟨[],vs,[],F,rfl,rfl,by simp[eD],by simpa using h⟩
 |d::ds,_,_,_,h=>by
  simp only[ai,eD]at h;obtain⟨v1,v2,F1,F2,rfl,rfl,h3,h4⟩:=h;obtain⟨u1,u2,G1,G2,rfl,rfl,h5,h6⟩:=eD.fv ds h4;exact⟨v1++u1,u2,F1++G1,G2,by simp,by simp,by simp only[eD];exact⟨v1,u1,F1,G1,rfl,rfl,h3,h5⟩,h6⟩
theorem eD.at_{w:World}{k:Nat}{es:List (List D)}{vs:List Value}{F:Fp}(h:eD w es vs F)(hk:∀e∈es,e.length=k){i:Nat}{e:List D}(hi:es[i]?=some e) :
  ∃G,ee w e ((vs.drop (i * k)).take k) G/\∀be∈G,be∈F:=by
 have ic:=(aI.1 hi).1;have e1:es=es.take i++(e::es.drop (i+1)):=by
  rw[<- aI.1 hi |>.2,List.getElem_cons_drop,a_]
 rw[e1]at h;obtain⟨v1,v2,F1,F2,rfl,rfl,h3,h4⟩:=eD.fv _ h;simp only[eD]at h4;obtain⟨u1,u2,G1,G2,rfl,rfl,h5,h6⟩:=h4;have Ja:v1.length=i * k:=by
  rw[eD.length _ h3 (λx hx=>hk x (bM hx)),aY,dU (by omega)]
 have QO:u1.length=k:=by rw[ee.length _ h5];exact hk e (cK hi)
 refine⟨G1,?_,λbe hb=>by simp[hb]⟩;rw[<- Ja,List.drop_left,<- QO,l8];exact h5
theorem ee.at_{w:World}:∀{ds:List D} {vs:List Value} {F:Fp},ee w ds vs F->∀{i:Nat} {d:D},ds[i]?=some d->∃v G,vs[i]?=some v/\Rp w d v G/\∀be∈G,be∈F
 |[],_,_,_,i,d,hi=>by simp at hi
 |x::ds,_,_,h,i,d,hi=>by
  simp only[ee]at h;obtain⟨v,eb,F1,F2,rfl,rfl,h3,h4⟩:=h;cases i with
  |zero=>simp at hi;subst hi;exact⟨v,F1,rfl,h3,λbe hb=>by simp[hb]⟩
  |succ i=>
   obtain⟨u,G,h5,h6,h7⟩:=ee.at_ h4 hi;exact⟨u,G,by simpa using h5,h6,λbe hb=>by simp[h7 be hb]⟩
theorem ee.drop{w:World}:∀(ds:List D) {vs:List Value} {F:Fp} (n:Nat),ee w ds vs F->∃G,ee w (ds.drop n) (vs.drop n) G/\∀be∈G,be∈F
 |ds,_,F,0,h=>⟨F,by simpa using h,λ_ h=>h⟩
 |[],_,F,n+1,h=>⟨F,by simp only[ee]at h;simp[ee,h.1,h.2],λ_ h=>h⟩
 |d::ds,_,_,n+1,h=>by
  simp only[ee]at h;obtain⟨v,eb,F1,F2,rfl,rfl,h3,h4⟩:=h;obtain⟨G,h5,h6⟩:=ee.drop ds n h4;exact⟨G,by simpa using h5,λbe hb=>by simp[h6 be hb]⟩
theorem ee.take{w:World}:∀(ds:List D) {vs:List Value} {F:Fp} (n:Nat),ee w ds vs F->∃G,ee w (ds.take n) (vs.take n) G/\∀be∈G,be∈F
 |ds,_,F,0,h=>⟨[],by simp[ee],λ_ h=>by simp at h⟩
 |[],_,F,n+1,h=>⟨F,by simp only[ee]at h;simp[ee,h.1,h.2],λ_ h=>h⟩
 |d::ds,_,_,n+1,h=>by
  simp only[ee]at h;obtain⟨v,eb,F1,F2,rfl,rfl,h3,h4⟩:=h;obtain⟨G,h5,h6⟩:=ee.take ds n h4;refine⟨F1++G,?_,λbe hb=>?_⟩
  ·exact⟨v,_,F1,G,rfl,rfl,h3,h5⟩
  ·rcases aL.1 hb with hb|hb
   ·simp[hb]
   ·simp[h6 be hb]
theorem ee.plain{w:World}:∀{ds:List D} {vs:List Value} {F:Fp},ee w ds vs F->(∀x∈ds,D.plain x=true)->F=[]
 |[],_,_,h,_=>by simp only[ee]at h;exact h.2
 |d::ds,_,_,h,hp=>by
  simp only[ee]at h;obtain⟨v,eb,F1,F2,rfl,rfl,h3,h4⟩:=h;have e2:=ee.plain h4 (λx hx=>hp x (by simp[hx]));have e1:=hp d (by simp);cases d with
  |list k fl es=>simp[D.plain]at e1
  |int k n=>simp[Rp]at h3;simp[h3.2.1,e2]
  |bool b=>simp[Rp]at h3;simp[h3.2,e2]
  |str s=>simp[Rp]at h3;simp[h3.2.1,e2]
theorem eD.plain{w:World}:∀{es:List (List D)} {vs:List Value} {F:Fp},eD w es vs F->flat es->F=[]
 |[],_,_,h,_=>by simp only[eD]at h;exact h.2
 |e::es,_,_,h,hp=>by
  simp only[eD]at h;obtain⟨v1,v2,F1,F2,rfl,rfl,h3,h4⟩:=h;rw[ee.plain h3 (hp e (by simp)),eD.plain h4 (λx hx=>hp x (by simp[hx]))];rfl
theorem Rp.qQ{w:World}{d:D}{v:Value}{F:Fp}(h:Rp w d v F):one v=true:=by
 cases d with
 |int k n=>simp[Rp]at h;rw[h.1];rfl
 |bool b=>simp[Rp]at h;rw[h.1];rfl
 |str s=>simp[Rp]at h;rw[h.1];rfl
 |list k fl es=>simp[Rp]at h;obtain⟨A,n,c,h1,_⟩:=h;rw[h1];rfl
theorem ee.qQ{w:World}:∀{ds:List D} {vs:List Value} {F:Fp},ee w ds vs F->∀v∈vs,one v=true
 |[],_,_,h=>by simp only[ee]at h;simp[h.1]
 |d::ds,_,_,h=>by
  simp only[ee]at h;obtain⟨v,eb,F1,F2,rfl,rfl,h3,h4⟩:=h;intro u hu;rcases ay.1 hu with rfl|hu
  ·exact h3.qQ
  ·exact ee.qQ h4 u hu
theorem eD.qQ{w:World}:∀{es:List (List D)} {vs:List Value} {F:Fp},eD w es vs F->∀v∈vs,one v=true
 |[],_,_,h=>by simp only[eD]at h;simp[h.1]
 |e::es,_,_,h=>by
  simp only[eD]at h;obtain⟨v1,v2,F1,F2,rfl,rfl,h3,h4⟩:=h;intro u hu;rcases aL.1 hu with hu|hu
  ·exact h3.qQ u hu
  ·exact eD.qQ h4 u hu
end
section
structure Row where
 es:List (List D)
 k:Nat
 fl:Bool
 deep:Bool
 app:Bool
 fz:Bool
inductive C where
 |d (x:D)
 |nil (k:Nat) (fl:Bool)
 |ref (r:Nat)
 |ptr (b o:Nat)
 |na (r k i o:Nat)
 |qN (cs:List D)
 |agg (cs:List C)
 |oK (cs:List C)
 |rf
 |any
instance:Inhabited C:=⟨.any⟩
mutual
def C.kill(i:Nat):C->C
 | .ref r=>if r=i then .any else .ref r
 | .ptr b o=>if b=i then .any else .ptr b o
 | .na r k a o=>if r=i then .any else .na r k a o
 | .agg cs=>.agg (C.jd i cs)
 | .oK cs=>.oK (C.jd i cs)
 |c=>c
def C.jd(i:Nat):List C->List C
 |[]=>[]
 |c::cs=>C.kill i c::C.jd i cs
end
inductive RV where
 |d (x:D)
 |row (r:Row)
inductive A where
 |val (agg:Bool) (cs:List RV)
 |box (cs:List RV)
structure St where
 sl:List (Nat×C)
 bx:List (Nat×List C)
 rw:List (Nat×Row)
def look{α:Type}:List (Nat×α)->Nat->Option α
 |[],_=>none
 |(k,x)::l,d=>if k=d then some x else look l d
def po{α:Type}(l:List (Nat×α))(d:Nat):List (Nat×α):=l.filter (λp=>p.1 !=d)
def L0(i:Nat)(l:List (Nat×C)):List (Nat×C):=l.map λp=>(p.1,p.2.kill i)
def LZ(i:Nat)(l:List (Nat×List C)):List (Nat×List C):=l.map λp=>(p.1,C.jd i p.2)
def St.kill(s:St)(i:Nat):St:=⟨L0 i s.sl,LZ i s.bx,s.rw⟩
def St.get(s:St)(d:Nat):C:=(look s.sl d).getD .any
def St.put(s:St)(dst:Option Nat)(c:C):St:=
 match dst with
 |some d=>{s with sl:=(d,c)::s.sl }
 |none=>s
def St.eN(s:St)(b:Nat)(cs:List C):St:={s with bx:=(b,cs)::po s.bx b }
def St.setRow(s:St)(r:Nat)(x:Row):St:={s with rw:=(r,x)::po s.rw r }
def St.cM(s:St)(r:Nat):St:={s with rw:=po s.rw r }
def St.jK(s:St)(b:Nat)(cs:List C):St:=(s.kill b).eN b cs
def St.newRow(s:St)(r:Nat)(x:Row):St:=(s.kill r).setRow r x
def tw(d j:Nat):Nat:=1000 * (d+1)+j
inductive KX where
 |s (d:Nat)
 |k (c:C)
def eU(s:St):KX->C
 | .s d=>s.get d
 | .k c=>c
def C.cells:C->List C
 | .agg cs=>cs
 |c=>[c]
def nth{α:Type}:List α->Nat->Option α
 |[],_=>none
 |x::_,0=>some x
 |_::l,i+1=>nth l i
def C.const:C->Bool
 | .d x=>D.plain x
 | .nil _ _=>true
 |_=>false
def C.cell:C->Bool
 | .d _=>true
 | .nil _ _=>true
 | .ref _=>true
 |_=>false
def Ca:St->List C->Option (List D×Bool×St)
 |s,[]=>some ([],true,s)
 |s,c::cs=>
  match c with
  | .d x=>(Ca s cs).map λ(ds,dp,s')=>(x::ds,D.plain x && dp,s')
  | .nil k fl=>(Ca s cs).map λ(ds,dp,s')=>(.list k fl []::ds,dp,s')
  | .ref r=>
   match look s.rw r with
   |some x=>(Ca (s.cM r) cs).map λ(ds,dp,s')=>(.list x.k x.fl x.es::ds,x.deep && !x.fz && dp,s')
   |none=>none
  |_=>none
def cQ(ds:List D):Bool:=ds.all D.plain
def zW(k:Nat)(fl:Bool):St->List C->Option (List (List D)×Bool×St)
 |s,[]=>some ([],true,s)
 |s,c::cs=>
  match Ca s c.cells with
  |some (ds,dp,s1)=>if ds.length=k/\(fl=true->cQ ds=true) then (zW k fl s1 cs).map λ(es,Xk,s')=>(ds::es,dp && Xk,s') else none
  |none=>none
def room:Nat:=140737488355328
inductive KO where
 |mv (x:KX)
 |pick (c x y:KX)
 |alloc (zs:List C)
 |box (x:KX)
 |build (zs:List C) (ps:List (Nat×Nat×KX))
 |nf (k:Nat) (fl:Bool) (xs:List KX)
 |make (k by_:Nat) (fl:Bool) (zs:List D) (x:KX)
 |ld (n:Nat) (x:KX)
 |st (n:Nat) (x y:KX)
 |fa (o:Nat) (x:KX)
 |ia (k:Nat) (x i:KX)
 |kW (x i:KX)
 |bin (op:BinOp) (x y:KX)
 |uS (op:BinOp) (x y:KX)
 |not (x:KX)
 |neg (x:KX)
 |conv (k:IntKind) (x:KX)
 |len (x:KX)
 |kQ (x:KX)
 |app (k by_:Nat) (fl:Bool) (x y:KX)
 |min (x y:KX)
 |max (x y:KX)
 |ext (x:KX) (i:Nat)
 |slc (x hi:KX)
 |WG (x:KX)
 |yq (x:KX)
 |call (f:Nat) (xs:List KX)
 |Mp (f:Nat) (x y:KX)
 |cut (k:Nat) (x:KX) (lo hi:Option KX)
 |Ji (x:KX) (lo hi:Option KX)
 |yi (k:Nat) (x:KX) (lo hi:Option KX)
 |Wv (n k:Nat) (x i:KX)
 |xP (k:Nat) (x y:KX)
 |zro (zs:List C)
 |jn (x y:KX)
 |Mq (x:KX)
structure KI where
 dst:Option Nat
 op:KO
 gd:Option (Nat×Bool)
structure KD where
 j:Nat
 q:Bool
 al:List Nat
 dn:List Nat
 i:KI
inductive KT where
 |nil
 |op (x:KD) (t:KT)
 |alt (x:KD) (t r:KT)
structure j7 where
 s:List Nat
 b:List Nat
 r:List Nat
inductive K where
 |skip
 |cz (ops:List KI) (kp:j7)
 |Lp (ops:KT) (kp:j7)
 |seq (a b:K)
 |cond (c:KX) (a b:K)
 |block (id:Nat) (a:K)
 |loop (a:K)
 |exit (id:Nat)
 |ret
 |share (r:Nat) (a:K)
 |I9 (d:Nat) (a:K)
inductive Ex where
 |norm
 |exit (id:Nat)
 |ret
def Po(op:BinOp)(k:IntKind)(a b:Int):Option D:=
 match op with
 | .add=>some (.int k (k.wrap (a+b)))
 | .sub=>some (.int k (k.wrap (a - b)))
 | .mul=>some (.int k (k.wrap (a * b)))
 | .lss=>some (.bool (decide (a < b)))
 | .leq=>some (.bool (decide (a<=b)))
 | .gtr=>some (.bool (decide (b < a)))
 | .geq=>some (.bool (decide (b<=a)))
 | .eql=>some (.bool (decide (a=b)))
 | .neq=>some (.bool (!decide (a=b)))
 | .quo=>if k=.i64/\0<=a/\1<=b then some (.int k (a / b)) else if k=.i64/\a < 0/\1<=b then some (.int k (-(-a / b))) else none
 | .rem=>if k=.i64/\0<=a/\1<=b then some (.int k (a % b)) else if k=.i64/\a < 0/\1<=b then some (.int k (-(-a % b))) else none
 |_=>none
def j5(a b:ByteArray):Bool:=Op.bytesLess a.toList b.toList
def Pp(op:BinOp)(a b:ByteArray):Option D:=
 match op with
 | .add=>if a.size+b.size<=maxLen then some (.str (a++b)) else none
 | .eql=>some (.bool (decide (a=b)))
 | .neq=>some (.bool (!decide (a=b)))
 | .lss=>some (.bool (j5 a b))
 | .leq=>some (.bool (j5 a b ||decide (a=b)))
 | .gtr=>some (.bool (!(j5 a b ||decide (a=b))))
 | .geq=>some (.bool (!j5 a b))
 |_=>none
def Pn(op:BinOp)(a b:Bool):Option D:=
 match op with
 | .eql=>some (.bool (decide (a=b)))
 | .neq=>some (.bool (!decide (a=b)))
 |_=>none
def M9(op:BinOp):C->C->Option C
 | .d (.int k a),.d (.int k' b)=>if k=k' then (Po op k a b).map .d else none
 | .d (.str a),.d (.str b)=>(Pp op a b).map .d
 |_,_=>none
def kJ(s:St):C->Option RV
 | .d x=>some (.d x)
 | .nil k fl=>some (.d (.list k fl []))
 | .ref r=>(look s.rw r).map λx=>.d (.list x.k x.fl x.es)
 |_=>none
def iK(s:St):C->Option RV
 | .d x=>some (.d x)
 | .nil k fl=>some (.row ⟨[],k,fl,true,true,false⟩)
 | .ref r=>(look s.rw r).map .row
 |_=>none
def fk{α β:Type}(f:α->Option β):List α->Option (List β)
 |[]=>some []
 |x::xs=>match f x with
  |some y=>(fk f xs).map (y::·)
  |none=>none
def C.isAgg:C->Bool
 | .agg _=>true
 |_=>false
def OF(s:St)(c:C):Option A:=
 match c with
 | .ptr b 0=>match look s.bx b with
  |some cs=>(fk (iK s) cs).map .box
  |none=>none
 |c=>(fk (kJ s) c.cells).map (.val c.isAgg)
def vI(s:St):List C->Option (List A)
 |[]=>some []
 |c::cs=>match OF s c with
  |some a=>(vI s cs).map (a::·)
  |none=>none
def rowsOf:List C->List Nat
 |[]=>[]
 | .ref r::cs=>r::rowsOf cs
 |_::cs=>rowsOf cs
def pM(s:St):C->List Nat
 | .ptr b 0=>rowsOf ((look s.bx b).getD [])
 |_=>[]
def cH(s:St):List C->List Nat
 |[]=>[]
 |c::cs=>pM s c++cH s cs
def hH:List C->List Nat
 |[]=>[]
 |c::cs=>rowsOf c.cells++hH cs
def cd:List C->List Nat
 |[]=>[]
 | .ptr b _::cs=>b::cd cs
 |_::cs=>cd cs
def RV.closed:RV->Bool
 | .d x=>D.plain x
 | .row r=>r.deep
def A.closed:A->Bool
 | .val _ cs=>cs.all RV.closed
 | .box cs=>cs.all RV.closed
def Row.share(r:Row):Row:={r with fz:=true,deep:=r.fl }
def dJ(s:St):List Nat->St
 |[]=>s
 |r::rs=>match look s.rw r with
  |some x=>dJ (s.setRow r x.share) rs
  |none=>dJ s rs
def dV(d:Nat):Nat->List RV->St->List C×St
 |_,[],s=>([],s)
 |j,.d x::cs,s=>let (l,s'):=dV d (j+1) cs s;(.d x::l,s')
 |j,.row r::cs,s=>let (l,s'):=dV d (j+1) cs (s.newRow (tw d j) r);(.ref (tw d j)::l,s')
def jM(s:St):List C->List A->St
 | .ptr b 0::cs,.box vs::outs=>let (l,s'):=dV (b+500) 0 vs s;jM (s'.eN b l) cs outs
 | .ptr _ 0::_,_=>s
 |_::cs,outs=>jM s cs outs
 |[],_=>s
def ft(d:Nat):Nat->List A->St->List C×St
 |_,[],s=>([],s)
 |q,.val ag vs::rs,s=>
  let (l,s1):=dV d (30 * q) vs s
  let (m,s2):=ft d (q+1) rs s1
  ((if ag then .agg l else l.headD .any)::m,s2)
 |_,.box _::_,s=>([],s)
def iR:List Nat->Bool
 |[]=>true
 |x::xs=>!xs.contains x && iR xs
def eu(s:St):List Nat->St
 |[]=>s
 |r::rs=>eu (s.cM r) rs
def fP{α:Type}(l:List α)(o:Nat)(n:List α):List α:=l.take o++n++l.drop (o+n.length)
def A.short:A->Bool
 | .val _ cs=>ny cs.length 30
 | .box _=>false
def ek(s:St):List Nat->St
 |[]=>s
 |b::bs=>ek {s with bx:=po s.bx b } bs
def xT(zs:List C):List (Nat×Nat×List C)->Option (List C)
 |[]=>some zs
 |(o,n,cs)::ps=>if cs.length=n/\o+n<=zs.length/\cs.all C.cell=true then xT (fP zs o cs) ps else none
def vD:List C->List Nat
 |[]=>[]
 |c::cs=>rowsOf c.cells++vD cs
def yL(s:St)(cs:List C):List Nat:=cd cs++cH s cs++hH cs
def bytesOf:List (List D)->Option (List Int)
 |[]=>some []
 |[.int .u8 n]::es=>(bytesOf es).map (n::·)
 |_=>none
def iP(s:St):C->Option D
 | .d x=>match x with
  | .list k fl []=>some (.list k fl [])
  | .list _ _ _=>none
  |x=>some x
 | .nil k fl=>some (.list k fl [])
 | .ref r=>match look s.rw r with
  |some row=>if row.deep=true/\row.fz=false then some (.list row.k row.fl row.es) else none
  |none=>none
 |_=>none
def rJ(s:St):List C->Option (List D)
 |[]=>some []
 |c::cs=>match iP s c with
  |some x=>(rJ s cs).map (x::·)
  |none=>none
def ou(s:St):List C->List D->St->Option St
 |[],[],acc=>some acc
 | .ref r::cs,.list k fl es::ds,acc=>match look s.rw r with
  |some row=>if k=row.k/\fl=row.fl then ou s cs ds (acc.setRow r ⟨es,row.k,row.fl,true,false,false⟩) else none
  |none=>none
 | .ref _::_,_,_=>none
 |_::cs,_::ds,acc=>ou s cs ds acc
 |_,_,_=>none
section
variable (cf:Nat->List A->Option (List A×List A)) (mf:Nat->Bool->List D->Int->Option (List D×Int))
def tR(s:St)(d:Option Nat)(f:Nat)(cs:List C):Option St:=
 match vI s cs with
 |none=>none
 |some as=>
  if iR (cH s cs) && iR (cd cs) && (cH s cs).all (λr=>!(hH cs).contains r) then
   match cf f as with
   |none=>none
   |some (rs,outs)=>if rs.all A.short then
    let s0:=if rs.all A.closed && outs.all A.closed then s else dJ s (hH cs)
    let s1:=ek (eu s0 (cH s cs)) (cd cs)
    let s2:=jM s1 cs outs
    let (l,s4):=ft (d.getD 0) 0 rs s2
    some (s4.put d (match l with|[c]=>c|l=>.oK l))
    else none
  else none
def pO(s:St)(o:Option KX)(z:Nat):Option Nat:=
 match o with
 |none=>some z
 |some e=>match eU s e with
  | .d (.int .i64 n)=>if 0<=n then some n.toNat else none
  |_=>none
def gH(s:St):KO->Option C
 | .mv x=>some (eU s x)
 | .pick c x y=>match eU s c with
  | .d (.bool b)=>some (if b then eU s x else eU s y)
  |_=>none
 | .build zs ps=>(xT zs (ps.map λp=>(p.1,p.2.1,(eU s p.2.2).cells))).map .agg
 | .ld n x=>match eU s x with
  | .ptr b o=>match look s.bx b with
   |some cs=>if n=0 then nth cs o else if o+n<=cs.length then some (.agg ((cs.drop o).take n)) else none
   |none=>none
  | .qN cs=>if n=0 then (nth cs 0).map .d else if n<=cs.length then some (.agg ((cs.take n).map .d)) else none
  | .na r k i o=>match look s.rw r with
   |some row=>match nth row.es i with
    |some e=>if row.k=k/\o+max n 1<=k/\(cQ ((e.drop o).take (max n 1)) ||!row.deep)=true then
      (if n=0 then (nth e o).map .d else some (.agg (((e.drop o).take n).map .d))) else none
    |none=>none
   |none=>none
  |_=>none
 | .fa o x=>match eU s x with
  | .ptr b p=>some (.ptr b (p+o))
  | .qN cs=>some (.qN (cs.drop o))
  | .na r k i p=>some (.na r k i (p+o))
  |_=>none
 | .ia k x i=>match eU s x,eU s i with
  | .d (.list k' _ es),.d (.int .i64 n)=>if 0<=n/\k'=k then (nth es n.toNat).map .qN else none
  | .ref r,.d (.int .i64 n)=>match look s.rw r with
   |some row=>if 0<=n/\n.toNat < row.es.length/\row.k=k then some (.na r k n.toNat 0) else none
   |none=>none
  |_,_=>none
 | .zro zs=>if zs.all C.const then some (.agg zs) else none
 | .Wv n k x i=>match eU s x,eU s i with
  | .ptr b o,.d (.int .i64 m)=>if 0<=m/\m.toNat < n then some (.ptr b (o+m.toNat * k)) else none
  |_,_=>none
 | .kW x i=>match eU s x,eU s i with
  | .d (.str t),.d (.int .i64 n)=>if 0<=n/\n.toNat < t.size then some (.d (.int .u8 (da t n.toNat))) else none
  |_,_=>none
 | .bin op x y=>M9 op (eU s x) (eU s y)
 | .uS op x y=>match eU s x,eU s y with
  | .d (.bool a),.d (.bool b)=>(Pn op a b).map .d
  |_,_=>none
 | .not x=>match eU s x with
  | .d (.bool b)=>some (.d (.bool (!b)))
  |_=>none
 | .neg x=>match eU s x with
  | .d (.int k a)=>some (.d (.int k (k.wrap (-a))))
  |_=>none
 | .conv k x=>match eU s x with
  | .d (.int _ a)=>some (.d (.int k (k.wrap a)))
  |_=>none
 | .len x=>match eU s x with
  | .d (.list _ _ es)=>some (.d (.int .i64 es.length))
  | .nil _ _=>some (.d (.int .i64 0))
  | .ref r=>match look s.rw r with
   |some row=>some (.d (.int .i64 row.es.length))
   |none=>none
  |_=>none
 | .kQ x=>match eU s x with
  | .d (.str t)=>some (.d (.int .i64 t.size))
  |_=>none
 | .min x y=>match eU s x,eU s y with
  | .d (.int .i64 a),.d (.int .i64 b)=>some (.d (.int .i64 (if b < a then b else a)))
  |_,_=>none
 | .max x y=>match eU s x,eU s y with
  | .d (.int .i64 a),.d (.int .i64 b)=>some (.d (.int .i64 (if a < b then b else a)))
  |_,_=>none
 | .ext x i=>match eU s x with
  | .oK cs=>nth cs i
  |_=>none
 | .slc x y=>match eU s x,eU s y with
  | .d (.list k fl es),.d (.int .i64 n)=>if 0<=n/\n.toNat<=es.length then some (.d (.list k fl (es.take n.toNat))) else none
  |_,_=>none
 | .Ji x lo hi=>match eU s x with
  | .d (.str t)=>match pO s lo 0,pO s hi t.size with
   |some a,some b=>if a<=b/\b<=t.size then some (.d (.str (t.extract a b))) else none
   |_,_=>none
  |_=>none
 | .yi k' x lo hi=>match eU s x with
  | .d (.list k fl es)=>match pO s lo 0,pO s hi es.length with
   |some a,some b=>if k=k'/\a<=b/\b<=es.length then some (.d (.list k fl ((es.take b).drop a))) else none
   |_,_=>none
  |_=>none
 | .WG x=>match eU s x with
  | .ptr b o=>some (.ptr b o)
  | .qN cs=>some (.qN cs)
  | .na r k i o=>some (.na r k i o)
  |_=>none
 | .yq x=>match eU s x with
  | .ref r=>match look s.rw r with
   |some row=>if row.k=1 then (bytesOf row.es).map λxs=>.d (.str ⟨(xs.map λn=>cL n.toNat).toArray⟩) else none
   |none=>none
  |_=>none
 |_=>none
mutual
def C.fY(q i:Nat):C->C
 | .ref r=>if r=q then .ref i else if r=i then .any else .ref r
 | .na r k a o=>if r=q then .na i k a o else if r=i then .any else .na r k a o
 | .agg cs=>.agg (C.xq q i cs)
 | .oK cs=>.oK (C.xq q i cs)
 |c=>c
def C.xq(q i:Nat):List C->List C
 |[]=>[]
 |c::cs=>C.fY q i c::C.xq q i cs
end
def R4(q i:Nat)(l:List (Nat×C)):List (Nat×C):=l.map λp=>(p.1,p.2.fY q i)
def R3(q i:Nat)(l:List (Nat×List C)):List (Nat×List C):=l.map λp=>(p.1,C.xq q i p.2)
def St.fY(s:St)(q i:Nat)(row:Row):St:=⟨R4 q i s.sl,R3 q i s.bx,(i,row)::po (po s.rw q) i⟩
def jq:List (List D)->Option (List Bool)
 |[]=>some []
 |[.bool b]::es=>(jq es).map (b::·)
 |_=>none
def cF:List Bool->List Bool->List Bool
 |a::as,b::bs=>(a ||b)::cF as bs
 |as,_=>as
def lg:List Bool->List Bool->Bool
 |a::as,b::bs=>(b && !a) ||lg as bs
 |_,_=>false
def Dj(s:St)(r:Nat):C->Option (List (List D))
 | .d (.list 1 _ es)=>some es
 | .ref q=>match look s.rw q with
  |some row=>if row.k=1/\q≠r then some row.es else none
  |none=>none
 |_=>none
def mN(s:St)(k:Nat)(fl:Bool):C->Option (List (List D)×Bool×St)
 | .d (.list k' sO es)=>if k'=k/\sO=fl then some (es,fl,s) else none
 | .nil _ _=>some ([],true,s)
 | .ref q=>match look s.rw q with
  |some row=>if row.k=k/\row.fl=fl then some (row.es,(row.deep && !row.fz) ||fl,s.cM q) else none
  |none=>none
 |_=>none
def kc(s:St)(d:Option Nat):KO->Option St
 | .alloc zs=>match d with
  |some b=>if zs.all C.const then some ((s.jK b zs).put d (.ptr b 0)) else none
  |none=>none
 | .box x=>match d with
  |some b=>if (eU s x).cells.all C.cell then some ((s.jK b (C.jd b (eU s x).cells)).put d (.ptr b 0)) else none
  |none=>none
 | .nf k fl xs=>match d with
  |some r=>match zW k fl s (xs.map (eU s)) with
   |some (es,dp,s1)=>if 0 < k then some ((s1.newRow r ⟨es,k,fl,dp,true,false⟩).put d (.ref r)) else none
   |none=>none
  |none=>none
 | .make k by_ fl zs x=>match d,eU s x with
  |some r,.d (.int .i64 n)=>if 0<=n/\n.toNat * by_<=room/\n<=4611686018427387904 then some ((s.newRow r ⟨aC n.toNat zs,k,fl,true,true,false⟩).put d (.ref r)) else none
  |_,_=>none
 | .st n x y=>match eU s x with
  | .ptr b o=>match look s.bx b with
   |some cs=>if (eU s y).cells.all C.cell=true/\(eU s y).cells.length=n/\o+n<=cs.length then some (s.eN b (fP cs o (eU s y).cells)) else none
   |none=>none
  | .na r k i o=>match Ca s (eU s y).cells with
   |some (ds,dp,s1)=>match look s1.rw r with
    |some row=>match nth row.es i with
     |some e=>if row.k=k/\row.fz=false/\row.app=true/\ds.length=n/\o+n<=k/\(row.fl=true->cQ ds=true)/\(dp ||!row.deep)=true then
       some (s1.setRow r {row with es:=row.es.set i (fP e o ds) }) else none
     |none=>none
    |none=>none
   |none=>none
  |_=>none
 | .app k by_ fl x y=>match d with
  |none=>none
  |some d0=>match mN s k fl (eU s y) with
   |none=>none
   |some (es,dp,s1)=>match eU s x with
    | .nil k' sO=>if k'=k/\sO=fl/\es.length * by_<=room/\es.length<=maxLen then some ((s1.newRow d0 ⟨es,k,fl,dp,true,false⟩).put d (.ref d0)) else none
    | .ref r=>match look s1.rw r with
     |some row=>if row.k=k/\row.fl=fl/\row.app=true/\(row.es.length+es.length) * by_<=room/\row.es.length+es.length<=maxLen then
       some ((s1.newRow r {row with es:=row.es++es,deep:=row.deep && dp }).put d (.ref r)) else none
     |none=>none
    |_=>none
 | .call f xs=>tR cf s d f (xs.map (eU s))
 | .cut k x lo hi=>match d with
  |none=>none
  |some _=>match eU s x with
   | .nil k' fl=>match pO s lo 0,pO s hi 0 with
    |some a,some b=>if k'=k/\a=0/\b=0 then some (s.put d (.nil k' fl)) else none
    |_,_=>none
   | .ref r=>match look s.rw r with
    |some row=>match pO s lo 0,pO s hi row.es.length with
     |some a,some b=>if row.k=k/\a<=b/\b<=row.es.length/\row.fz=false then some ((s.newRow r {row with es:=(row.es.take b).drop a,app:=row.app && lo.isNone }).put d (.ref r)) else none
     |_,_=>none
    |none=>none
   |_=>none
 | .xP k x y=>match d,eU s x,eU s y with
  |some d0,.ref r,.d (.list k' sO es)=>match look s.rw r with
   |some row=>if row.k=k/\k'=k/\sO=true/\row.fl=true/\row.fz=false/\row.app=true/\es.length=row.es.length then
     some ((s.setRow r {row with es:=es }).put (some d0) (.d (.int .i64 es.length))) else none
   |none=>none
  |_,_,_=>none
 | .Mq x=>match d with
  |some d0=>match eU s x with
   | .ref q=>match look s.rw q with
    |some row=>some ((s.fY q (tw d0 0) row).put (some d0) (.ref (tw d0 0)))
    |none=>none
   |c=>some (s.put (some d0) c)
  |none=>none
 | .jn x y=>match d,eU s x with
  |some d0,.ref r=>match look s.rw r,Dj s r (eU s y) with
   |some row,some es=>if row.k=1/\row.fl=true/\row.fz=false/\row.app=true/\es.length=row.es.length then
     (match jq row.es,jq es with
     |some bs,some cs=>if es≠[] then some ((s.setRow r {row with es:=(cF bs cs).map λb=>[D.bool b] }).put (some d0) (.d (.bool (lg bs cs)))) else none
     |_,_=>none) else none
   |_,_=>none
  |_,_=>none
 | .Mp f x y=>match d,eU s y with
  |some d0,.d (.int .i64 q)=>match rJ s (eU s x).cells with
   |some ds=>if iR (rowsOf (eU s x).cells) then (match mf f (eU s x).isAgg ds q with
    |some (ga,q')=>(ou s (eU s x).cells ga (eu s (rowsOf (eU s x).cells))).map λs'=>s'.put (some d0) (.d (.int .i64 q'))
    |none=>none) else none
   |none=>none
  |_,_=>none
 |_=>none
def KO.jg:KO->Bool
 | .alloc _=>false
 | .box _=>false
 | .nf _ _ _=>false
 | .make _ _ _ _ _=>false
 | .st _ _ _=>false
 | .app _ _ _ _ _=>false
 | .call _ _=>false
 | .Mp _ _ _=>false
 | .cut _ _ _ _=>false
 | .xP _ _ _=>false
 | .jn _ _=>false
 | .Mq _=>false
 |_=>true
def yu(s:St)(d:Option Nat)(o:KO):Option St:=
 if o.jg then (gH s o).map (s.put d) else kc cf mf s d o
def rj(s:St)(i:KI):Option St:=
 match i.gd with
 |none=>yu cf mf s i.dst i.op
 |some (g,want)=>match s.get g with
  | .d (.bool b)=>if b=want then yu cf mf s i.dst i.op else some (s.put i.dst .rf)
  | .rf=>some (s.put i.dst .rf)
  |_=>none
def k9:List KI->St->Option St
 |[],s=>some s
 |i::is,s=>match rj cf mf s i with
  |some s'=>k9 is s'
  |none=>none
def KO.J6:KO->Bool
 | .ld _ _=>true
 | .yq _=>true
 |_=>false
def nc(s:St):KO->Option (Option Nat)
 | .ld _ x=>match eU s x with
  | .ptr b _=>some (some b)
  | .qN _=>some none
  |_=>none
 | .yq _=>none
 |_=>some none
def dW(s:St)(d:Option Nat):KO->List Nat
 | .st _ x y=>(match eU s x with
   | .ptr b _=>[b]
   | .na r _ _ _=>r::rowsOf (eU s y).cells
   |_=>[])
 | .nf _ _ xs=>d.toList++vD (xs.map (eU s))
 | .app _ _ _ x y=>d.toList++rowsOf [eU s x]++rowsOf [eU s y]
 | .call f xs=>yL s (xs.map (eU s))
 | .Mp _ x _=>rowsOf (eU s x).cells
 | .cut _ x _ _=>d.toList++rowsOf [eU s x]
 | .xP _ x _=>d.toList++rowsOf [eU s x]
 | .jn x _=>d.toList++rowsOf [eU s x]
 |_=>d.toList
def mF(dn:List Nat)(tk:List (List Nat×Nat)):Option Nat->List (List Nat×Nat)
 |some b=>(dn,b)::tk
 |none=>tk
def il(j:Nat)(tk:List (List Nat×Nat)):List (List Nat×Nat):=tk.filter λp=>!p.1.contains j
def gl{α:Type}(l:List (Nat×α)):List Nat->List (Nat×α)
 |[]=>[]
 |d::ds=>match look l d with
  |some x=>(d,x)::gl l ds
  |none=>gl l ds
def St.cG(s:St)(kp:j7):St:=⟨gl s.sl kp.s,gl s.bx kp.b,gl s.rw kp.r⟩
def j6(x:KD)(tk:List (List Nat×Nat))(s:St)(k:List (List Nat×Nat)->St->Option St):Option St:=
 match rj cf mf s x.i with
 |some s'=>if (il x.j tk).all (λp=>!(dW s x.i.dst x.i.op).contains p.2 && (look s'.bx p.2).isSome && !(x.i.dst ==some p.2)) then k (il x.j tk) s' else none
 |none=>none
open Classical in
noncomputable def both{α:Type}:Option α->Option α->Option α
 |some a,some b=>if a=b then some a else none
 |_,_=>none
noncomputable def eH(kp:j7):KT->List (List Nat×Nat)->St->Option St
 | .nil,_,s=>some (s.cG kp)
 | .op ⟨j,quiet,al,dn,i⟩ is,tk,s=>
  if quiet then
   (match i.gd with
   |none=>(match gH s i.op,nc s i.op with
    |some c,some b=>eH kp is (mF dn tk b) (s.put i.dst c)
    |_,_=>none)
   |some (g,want)=>match s.get g with
    | .d (.bool t)=>if t=want then (match gH s i.op,nc s i.op with
      |some c,some b=>eH kp is (mF dn tk b) (s.put i.dst c)
      |_,_=>none) else eH kp is tk (s.put i.dst .rf)
    | .rf=>eH kp is tk (s.put i.dst .rf)
    |_=>none)
  else j6 cf mf ⟨j,quiet,al,dn,i⟩ tk s (eH kp is)
 | .alt x is r,tk,s=>both (j6 cf mf x tk s (eH kp is)) (eH kp r tk s)
def iter(f:St->Option (Ex×St)):Nat->St->Option (Ex×St)
 |0,_=>none
 |n+1,s=>match f s with
  |some (.norm,s')=>iter f n s'
  |r=>r
def Nf(s:St):C->C
 | .ref r=>match look s.rw r with
  |some x=>.d (.list x.k x.fl x.es)
  |none=>.ref r
 |c=>c
def qe(s:St)(d:Nat):Option St:=
 match s.get d with
 | .ref r=>match look s.rw r with
  |some x=>some ((dJ s [r]).put (some d) (.d (.list x.k x.fl x.es)))
  |none=>none
 | .ptr b 0=>match look s.bx b with
  |some cs=>some ((dJ s (rowsOf cs)).eN b (cs.map (Nf s)))
  |none=>some s
 |_=>some s
noncomputable def gx(n:Nat):K->St->Option (Ex×St)
 | .skip,s=>some (.norm,s)
 | .cz ops kp,s=>match k9 cf mf ops s with
  |some s'=>some (.norm,s'.cG kp)
  |none=>none
 | .Lp ops kp,s=>match eH cf mf kp ops [] s with
  |some s'=>some (.norm,s')
  |none=>none
 | .seq a b,s=>match gx n a s with
  |some (.norm,s')=>gx n b s'
  |r=>r
 | .cond c a b,s=>match eU s c with
  | .d (.bool t)=>if t then gx n a s else gx n b s
  |_=>none
 | .block id a,s=>match gx n a s with
  |some (.exit i,s')=>if i=id then some (.norm,s') else some (.exit i,s')
  |r=>r
 | .loop a,s=>iter (gx n a) n s
 | .exit id,s=>some (.exit id,s)
 | .ret,s=>some (.ret,s)
 | .share r a,s=>gx n a (dJ s [r])
 | .I9 d a,s=>match qe s d with
  |some s'=>gx n a s'
  |none=>none
end
inductive KR where
 |t (d:Nat)
 |c (d n:Nat)
structure KF where
 np:Nat
 body:K
 res:List KR
def wo(p:Nat)(a:A)(s:St):St:=
 match a with
 | .val ag vs=>let (l,s'):=dV p 0 vs s;s'.put (some p) (if ag then .agg l else l.headD .any)
 | .box vs=>let (l,s'):=dV (p+500) 0 vs s;(s'.jK (900+p) l).put (some p) (.ptr (900+p) 0)
def iB:Nat->List A->St->St
 |_,[],s=>s
 |p,a::as,s=>iB (p+1) as (wo p a s)
def FQ (s : St) : KR -> Option (A × List Nat)
  | .t d => (fk (iK s) (s.get d).cells).map λvs => (.val (s.get d).isAgg vs, rowsOf (s.get d).cells)
  | .c d n => match s.get d with
   | .ptr b 0 => match look s.bx b with
    | some cs => if n = 0 then (match cs with
        | [c] => (fk (iK s) cs).map λvs => (.val false vs, rowsOf cs)
        | _ => none)
      else if cs.length = n then (fk (iK s) cs).map λvs => (.val true vs, rowsOf cs) else none
    | none => none
   | _ => none
def vB(s:St):List KR->Option (List A×List Nat)
 |[]=>some ([],[])
 |r::rs=>match FQ s r with
  |some (a,l)=>(vB s rs).map λ(as,l')=>(a::as,l++l')
  |none=>none
def On(s:St)(p:Nat):A->Option (List A×List Nat)
 | .val _ _=>some ([],[])
 | .box _=>match look s.bx (900+p) with
  |some cs=>(fk (iK s) cs).map λvs=>([.box vs],rowsOf cs)
  |none=>none
def sq(s:St):Nat->List A->Option (List A×List Nat)
 |_,[]=>some ([],[])
 |p,a::as=>match On s p a with
  |some (l,r)=>(sq s (p+1) as).map λ(l',r')=>(l++l',r++r')
  |none=>none
def leave(kf:KF)(args:List A)(s:St):Option (List A×List A):=
 match vB s kf.res,sq s 0 args with
 |some (rs,l),some (outs,l')=>if iR (l++l') then some (rs,outs) else none
 |_,_=>none
noncomputable def BF(cf:Nat->List A->Option (List A×List A))(mf:Nat->Bool->List D->Int->Option (List D×Int))(n:Nat)(kf:KF)(args:List A):Option (List A×List A):=
 if args.length=kf.np then
  match gx cf mf n kf.body (iB 0 args ⟨[],[],[]⟩) with
  |some (.norm,s)=>leave kf args s
  |some (.ret,s)=>leave kf args s
  |_=>none
 else none
def Oh(t:ByteArray):List (List D)->Int->Option Int
 |[],_=>some (-1)
 |(.str s::_)::es,i=>if s=t then some i else Oh t es (i+1)
 |_,_=>none
def XT(f:Nat)(as:List A):Option (List A×List A):=
 if f=9001 then (match as with
  |[.val false [.d (.int .i64 n)]]=>some ([.val false [.d (.str ⟨(Lib.itoa n).toArray⟩)]],[])
  |_=>none)
 else if f=9002 then (match as with
  |[.val false [.d (.str s)],.val false [.d (.int .u8 c)]]=>some ([.val false [.d (.int .i64 (Lib.indexByte s.data.toList c.toNat.toUInt8))]],[])
  |_=>none)
 else if f=9003 then (match as with
  |[.val false [.d (.list 3 fl es)],.val false [.d (.str t)]]=>(Oh t es 0).map λi=>([.val false [.d (.int .i64 i)]],[])
  |_=>none)
 else none
noncomputable def u7(T:Nat->Option KF):Nat->Nat->List A->Option (List A×List A)
 |0,_,_=>none
 |n+1,f,args=>match T f with
  |none=>none
  |some kf=>if kf.np=999 then XT f args else BF (u7 T n) (λ_ _ _ _=>none) n kf args
abbrev i_(d:Nat)(o:KO):KI:=⟨some d,o,none⟩
abbrev n_(o:KO):KI:=⟨none,o,none⟩
abbrev g_(d g:Nat)(w:Bool)(o:KO):KI:=⟨some d,o,some (g,w)⟩
abbrev q_(j:Nat)(i:KI)(t:KT):KT:=.op ⟨j,true,[],[],i⟩ t
abbrev l_(j:Nat)(al dn:List Nat)(i:KI)(t:KT):KT:=.op ⟨j,true,al,dn,i⟩ t
abbrev w_(j:Nat)(i:KI)(t:KT):KT:=.op ⟨j,false,[],[],i⟩ t
abbrev S_(d:Nat):KX:=.s d
abbrev Z_(n:Int):KX:=.k (.d (.int .i64 n))
end
section
open Go.RowKit
inductive Own where
 |free
 |box (b:Nat)
 |row (r:Nat)
 |dd
 deriving DecidableEq
structure Gh where
 h:Nat->Nat
 β:Nat->Nat
 sl:Nat->Value
 ω:Nat->Own
def dm(h:Nat->Nat)(F:Fp):Prop:=∀be∈F,be.2<=h be.1
def mM(w:World)(g:Nat):Prop:=g < w.heap.size/\∀j,w.frozen? ⟨g,j,none⟩=false
mutual
def CR(γ:Gh)(w:World):C->Value->Prop
 | .d x,v=>∃F,Rp w x v F/\dm γ.h F
 | .nil k _,v=>v=.slice none 0 0/\0 < k
 | .ref r,v=>v=γ.sl r/\∃A n c,v=.slice A n c
 | .ptr b o,v=>v=.pointer (some ⟨γ.β b,o,none⟩)
 | .na r k i o,v=>∃g p n c,γ.sl r=.slice (some ⟨g,p,none⟩) n c/\v=.pointer (some ⟨g,p+i * k+o,none⟩)
 | .qN cs,v=>∃b o vs F,v=.pointer (some ⟨b,o,none⟩)/\ee w cs vs F/\dm γ.h F/\gz w b o vs/\∀j,j < cs.length->o+j < γ.h b
 | .agg cs,v=>∃vs,v=.agg vs.toArray/\dS γ w cs vs
 | .oK cs,v=>∃vs,v=.tuple vs.toArray/\dS γ w cs vs
 | .rf,v=>v=undef
 | .any,_=>True
def dS(γ:Gh)(w:World):List C->List Value->Prop
 |[],vs=>vs=[]
 |c::cs,vs=>∃v eb,vs=v::eb/\CR γ w c v/\dS γ w cs eb
end
def ni(h:Nat->Nat)(w:World)(x:Row)(v:Value)(F:List Nat):Prop:=
 ∃A n c,v=.slice A n c/\n=x.es.length/\n<=c/\c<=maxLen/\0 < x.k/\(∀e∈x.es,e.length=x.k)/\(x.fl=true->flat x.es)/\
  ((A=none/\c=0/\F=[])\/
   ∃g o xs G,A=some ⟨g,o,none⟩/\g < w.heap.size/\mM w g/\eD w x.es xs G/\gz w g o xs/\h g<=o+n * x.k/\(x.fz=false->h g=0)/\
    (x.app=true->o=0/\∃T vs,kX w g T vs/\vs.length=c * x.k)/\
    (x.deep=true->F=g::G.map bG/\∀be∈G,h be.1=0/\mM w be.1)/\(x.deep=false->F=[g]/\dm h G))
structure Inv (γ:Gh) (h0:Nat->Nat) (io:List Nat) (w0:World) (s:St) (f:Fm) (w:World):Prop where
 sl:∀d c,look s.sl d=some c->CR γ w c (f d)
 bx:∀b cs,look s.bx b=some cs->∃T vs,kX w (γ.β b) T vs/\dS γ w cs vs/\γ.ω (γ.β b)=.box b
 rw:∀r x,look s.rw r=some x->∃F,ni γ.h w x (γ.sl r) F/\F.Nodup/\∀g∈F,γ.ω g=.row r
 own:∀g,γ.ω g≠.free->g < w.heap.size/\(w0.heap.size<=g\/g∈io)
 lJ:∀g b,γ.ω g=.box b->γ.h g=0
 eM:∀g,w.heap.size<=g->γ.h g=0
 os:w.os=w0.os
 tape:w.tape=w0.tape
 output:w.output=w0.output
 size:w0.heap.size<=w.heap.size
 frame:∀g,g < w0.heap.size->g∉io->w.heap[g]?=w0.heap[g]?
 cell:∀g j,g < w0.heap.size->j < h0 g->w.cell? ⟨g,j,none⟩=w0.cell? ⟨g,j,none⟩
 mono:∀g,g < w0.heap.size->h0 g<=γ.h g
 hold:∀g,g < w0.heap.size->g∉io->γ.h g=h0 g
 eV:∀g,mM w0 g->mM w g
section
variable {α:Type}
theorem dM(l:List (Nat×α))(d e:Nat):look (po l d) e=if d=e then none else look l e:=by
 induction l with
 |nil=>simp[po,look]
 |cons p l ih=>
  obtain⟨k,x⟩:=p;unfold po at ih ⊢;by_cases h:k=d
  ·subst h;simp only[List.filter_cons,bne_self_eq_false,au,if_false,ih,look];by_cases h2:k=e<;>simp[h2]
  ·have h':(k !=d)=true:=by simp[h]
   simp only[List.filter_cons,h',if_true,look,ih];by_cases h2:k=e
   ·subst h2;simp[kF h]
   ·simp[h2]
theorem jW(l:List (Nat×α)):∀(ds:List Nat) (e:Nat) (x:α),look (gl l ds) e=some x->look l e=some x
 |[],e,x,h=>by simp[gl,look]at h
 |d::ds,e,x,h=>by
  unfold gl at h;cases hd:look l d with
  |none=>rw[hd]at h;exact jW l ds e x h
  |some y=>
   rw[hd]at h;simp only[look]at h
   split at h
   ·rename_i he;subst he;rw[hd];exact h
   ·exact jW l ds e x h
end
theorem ui(i:Nat)(l:List (Nat×C))(d:Nat):look (L0 i l) d=(look l d).map (C.kill i):=by
 induction l with
 |nil=>rfl
 |cons p l ih=>
  obtain⟨k,x⟩:=p;unfold L0 at ih ⊢;simp only[aN,look,ih]
  split<;>rfl
theorem uh(i:Nat)(l:List (Nat×List C))(d:Nat):look (LZ i l) d=(look l d).map (C.jd i):=by
 induction l with
 |nil=>rfl
 |cons p l ih=>
  obtain⟨k,x⟩:=p;unfold LZ at ih ⊢;simp only[aN,look,ih]
  split<;>rfl
theorem dm.mono{h h':Nat->Nat}{F:Fp}(hs:dm h F)(hh:∀g,h g<=h' g):dm h' F:=λbe hb=>az (hs be hb) (hh _)
theorem dm.keeps{h:Nat->Nat}{F:Fp}{w w':World}(hs:dm h F)(hc:∀g j,j < h g->w'.cell? ⟨g,j,none⟩=w.cell? ⟨g,j,none⟩):rz F w w':=
 λbe hb j hj=>hc _ j (bn hj (hs be hb))
theorem dm.sub{h:Nat->Nat}{F G:Fp}(hs:dm h F)(hg:∀be∈G,be∈F):dm h G:=λbe hb=>hs be (hg be hb)
theorem dm.append{h:Nat->Nat}{F G:Fp}(hs:dm h F)(hg:dm h G):dm h (F++G):=λbe hb=>by
 rcases aL.1 hb with hb|hb
 ·exact hs be hb
 ·exact hg be hb
mutual
theorem CR.move{γ γ':Gh}{w w':World}(i:Nat)(hh:∀g,γ.h g<=γ'.h g)(hc:∀g j,j < γ.h g->w'.cell? ⟨g,j,none⟩=w.cell? ⟨g,j,none⟩)(Gy:∀b,b≠i->γ'.β b=γ.β b)(sS:∀r,r≠i->γ'.sl r=γ.sl r) :
  ∀(c:C) {v:Value},CR γ w c v->CR γ' w' (C.kill i c) v
 | .d x,v,h=>by
  simp only[CR,C.kill]at h ⊢;obtain⟨F,h1,h2⟩:=h;exact⟨F,h1.cG x (h2.keeps hc),h2.mono hh⟩
 | .nil _ _,v,h=>by simpa only [CR,C.kill] using h
 | .ref r,v,h=>by
  simp only[C.kill];split
  ·simp only[CR]
  ·rename_i hr;simp only[CR]at h ⊢;rw[sS r hr];exact h
 | .ptr b o,v,h=>by
  simp only[C.kill];split
  ·simp only[CR]
  ·rename_i hr;simp only[CR]at h ⊢;rw[Gy b hr];exact h
 | .na r k a o,v,h=>by
  simp only[C.kill];split
  ·simp only[CR]
  ·rename_i hr;simp only[CR]at h ⊢;rw[sS r hr];exact h
 | .qN cs,v,h=>by
  simp only[CR,C.kill]at h ⊢;obtain⟨b,o,vs,F,h1,h2,h3,h4,h5⟩:=h;refine⟨b,o,vs,F,h1,h2.cG cs (h3.keeps hc),h3.mono hh,?_,λj hj=>bn (h5 j hj) (hh b)⟩;intro j u hu;have hj:=(aI.1 hu).1;rw[ee.length cs h2]at hj;rw[hc b (o+j) (h5 j hj)];exact h4 j u hu
 | .agg cs,v,h=>by
  simp only[CR,C.kill]at h ⊢;obtain⟨vs,h1,h2⟩:=h;exact⟨vs,h1,dS.move i hh hc Gy sS cs h2⟩
 | .oK cs,v,h=>by
  simp only[CR,C.kill]at h ⊢;obtain⟨vs,h1,h2⟩:=h;exact⟨vs,h1,dS.move i hh hc Gy sS cs h2⟩
 | .rf,v,h=>by simpa only [CR,C.kill] using h
 | .any,v,h=>by simp only[CR,C.kill]
theorem dS.move{γ γ':Gh}{w w':World}(i:Nat)(hh:∀g,γ.h g<=γ'.h g)(hc:∀g j,j < γ.h g->w'.cell? ⟨g,j,none⟩=w.cell? ⟨g,j,none⟩)(Gy:∀b,b≠i->γ'.β b=γ.β b)(sS:∀r,r≠i->γ'.sl r=γ.sl r) :
  ∀(cs:List C) {vs:List Value},dS γ w cs vs->dS γ' w' (C.jd i cs) vs
 |[],vs,h=>by simpa only [dS,C.jd] using h
 |c::cs,vs,h=>by
  simp only[dS,C.jd]at h ⊢;obtain⟨v,eb,h1,h2,h3⟩:=h;exact⟨v,eb,h1,CR.move i hh hc Gy sS c h2,dS.move i hh hc Gy sS cs h3⟩
end
mutual
theorem CR.mono{γ γ':Gh}{w w':World}(hh:∀g,γ.h g<=γ'.h g)(hc:∀g j,j < γ.h g->w'.cell? ⟨g,j,none⟩=w.cell? ⟨g,j,none⟩)(Gy:γ'.β=γ.β)(sS:γ'.sl=γ.sl) :
  ∀(c:C) {v:Value},CR γ w c v->CR γ' w' c v
 | .d x,v,h=>by
  simp only[CR]at h ⊢;obtain⟨F,h1,h2⟩:=h;exact⟨F,h1.cG x (h2.keeps hc),h2.mono hh⟩
 | .nil _ _,v,h=>by simpa only [CR] using h
 | .ref r,v,h=>by simp only[CR]at h ⊢;rw[sS];exact h
 | .ptr b o,v,h=>by simp only[CR]at h ⊢;rw[Gy];exact h
 | .na r k a o,v,h=>by simp only[CR]at h ⊢;rw[sS];exact h
 | .qN cs,v,h=>by
  simp only[CR]at h ⊢;obtain⟨b,o,vs,F,h1,h2,h3,h4,h5⟩:=h;refine⟨b,o,vs,F,h1,h2.cG cs (h3.keeps hc),h3.mono hh,?_,λj hj=>bn (h5 j hj) (hh b)⟩;intro j u hu;have hj:=(aI.1 hu).1;rw[ee.length cs h2]at hj;rw[hc b (o+j) (h5 j hj)];exact h4 j u hu
 | .agg cs,v,h=>by
  simp only[CR]at h ⊢;obtain⟨vs,h1,h2⟩:=h;exact⟨vs,h1,dS.mono hh hc Gy sS cs h2⟩
 | .oK cs,v,h=>by
  simp only[CR]at h ⊢;obtain⟨vs,h1,h2⟩:=h;exact⟨vs,h1,dS.mono hh hc Gy sS cs h2⟩
 | .rf,v,h=>by simpa only [CR] using h
 | .any,v,h=>by simp only[CR]
theorem dS.mono{γ γ':Gh}{w w':World}(hh:∀g,γ.h g<=γ'.h g)(hc:∀g j,j < γ.h g->w'.cell? ⟨g,j,none⟩=w.cell? ⟨g,j,none⟩)(Gy:γ'.β=γ.β)(sS:γ'.sl=γ.sl) :
  ∀(cs:List C) {vs:List Value},dS γ w cs vs->dS γ' w' cs vs
 |[],vs,h=>by simpa only [dS] using h
 |c::cs,vs,h=>by
  simp only[dS]at h ⊢;obtain⟨v,eb,h1,h2,h3⟩:=h;exact⟨v,eb,h1,CR.mono hh hc Gy sS c h2,dS.mono hh hc Gy sS cs h3⟩
end
theorem ni.cG{h h':Nat->Nat}{w w':World}{x:Row}{v:Value}{F:List Nat}(hr:ni h w x v F)(hF:∀g∈F,h' g=h g/\w'.heap[g]?=w.heap[g]?)(hh:∀g,h g<=h' g)(hc:∀g j,j < h g->w'.cell? ⟨g,j,none⟩=w.cell? ⟨g,j,none⟩):ni h' w' x v F:=by
 obtain⟨A,n,c,h1,h2,h3,h4,h5,h6,h7,h8⟩:=hr;refine⟨A,n,c,h1,h2,h3,h4,h5,h6,h7,?_⟩;rcases h8 with h8|⟨g,o,xs,G,a1,a2,a3,a4,a5,a6,a7,a8,a9,sI⟩
 ·exact .inl h8
 ·have hg:g∈F:=by
   cases hd:x.deep with
   |true=>rw[(a9 hd).1];simp
   |false=>rw[(sI hd).1];simp
  have hb:=(hF g hg).2;have hk:rz G w w':=by
   cases hd:x.deep with
   |false=>exact (sI hd).2.keeps hc
   |true=>
    intro be n5 j _;exact World.cell?_of_block (w:=w) (hF be.1 (by rw[(a9 hd).1];simp;exact .inr ⟨be.2,n5⟩)).2
  refine .inr ⟨g,o,xs,G,a1,Fx a2 hb,?_,a4.cG _ hk,a5.cG hb,by rw[(hF g hg).1];exact a6,λhz=>by rw[(hF g hg).1];exact a7 hz,?_,?_,?_⟩
  ·exact⟨Fx a2 hb,λj=>by rw[World.frozen?_of_block (w:=w) hb];exact a3.2 j⟩
  ·intro ha;obtain⟨ho,T,vs,hv,hl⟩:=a8 ha;exact⟨ho,T,vs,hv.cG hb,hl⟩
  ·intro hd;obtain⟨e,hz⟩:=a9 hd;refine⟨e,λbe n5=>?_⟩;have hm:=hF be.1 (by rw[e];simp;exact .inr ⟨be.2,n5⟩);refine⟨by rw[hm.1];exact (hz be n5).1,Fx (hz be n5).2.1 hm.2,λj=>?_⟩;rw[World.frozen?_of_block (w:=w) hm.2];exact (hz be n5).2.2 j
  ·intro hd;obtain⟨e,hz⟩:=sI hd;exact⟨e,hz.mono hh⟩
structure sG (γ:Gh) (M:Own->Prop) (w w':World):Prop where
 os:w'.os=w.os
 tape:w'.tape=w.tape
 output:w'.output=w.output
 size:w.heap.size<=w'.heap.size
 block:∀g,g < w.heap.size->¬M (γ.ω g)->w'.heap[g]?=w.heap[g]?
 cell:∀g j,j < γ.h g->w'.cell? ⟨g,j,none⟩=w.cell? ⟨g,j,none⟩
 eV:∀g,mM w g->mM w' g
section
variable {γ:Gh} {h0:Nat->Nat} {io:List Nat} {w0:World} {s:St} {f:Fm} {w:World}
theorem Inv.qO(hi:Inv γ h0 io w0 s f w){w':World}{M:Own->Prop}(ha:sG γ M w w'):∀g j,j < γ.h g->w'.cell? ⟨g,j,none⟩=w.cell? ⟨g,j,none⟩:=ha.cell
theorem Inv.M6(hi:Inv γ h0 io w0 s f w){w':World}{M:Own->Prop}(ha:sG γ M w w')(hf:¬M .free)(hb:∀b,M (.box b)->look s.bx b=none)(hr:∀r,M (.row r)->look s.rw r=none):Inv γ h0 io w0 s f w' where
 sl d c hl:=(hi.sl d c hl).mono (γ':=γ) (λ_=>aj _) ha.cell rfl rfl c
 bx b cs hl:=by
  obtain⟨T,vs,h1,h2,h3⟩:=hi.bx b cs hl;refine⟨T,vs,h1.cG (ha.block _ h1.lt ?_),h2.mono (γ':=γ) (λ_=>aj _) ha.cell rfl rfl cs,h3⟩;rw[h3];intro hm;rw[hb b hm]at hl;cases hl
 rw r x hl:=by
  obtain⟨F,h1,h2,h3⟩:=hi.rw r x hl;refine⟨F,h1.cG (λg hg=>⟨rfl,ha.block g (hi.own g (by rw[h3 g hg];simp)).1 ?_⟩) (λ_=>aj _) ha.cell,h2,h3⟩;rw[h3 g hg];intro hm;rw[hr r hm]at hl;cases hl
 own g hg:=⟨bn (hi.own g hg).1 ha.size,(hi.own g hg).2⟩
 lJ:=hi.lJ
 eM g hg:=hi.eM g (az ha.size hg)
 os:=ha.os.trans hi.os
 tape:=ha.tape.trans hi.tape
 output:=ha.output.trans hi.output
 size:=az hi.size ha.size
 frame g hg hn:=by
  refine (ha.block g (bn hg hi.size) ?_).trans (hi.frame g hg hn);have:γ.ω g=.free:=by
   rcases gq (γ.ω g=.free) with h|h
   ·exact h
   ·rcases (hi.own g h).2 with h'|h'
    ·omega
    ·exact absurd h' hn
  rw[this];exact hf
 cell g j hg hj:=(ha.cell g j (bn hj (hi.mono g hg))).trans (hi.cell g j hg hj)
 mono:=hi.mono
 hold:=hi.hold
 eV g hg:=ha.eV g (hi.eV g hg)
theorem Inv.sub(hi:Inv γ h0 io w0 s f w){s':St}(h1:∀d c,look s'.sl d=some c->look s.sl d=some c)(h2:∀d c,look s'.bx d=some c->look s.bx d=some c)(h3:∀d c,look s'.rw d=some c->look s.rw d=some c):Inv γ h0 io w0 s' f w:=
 {hi with sl:=λd c h=>hi.sl d c (h1 d c h),bx:=λd c h=>hi.bx d c (h2 d c h),rw:=λd c h=>hi.rw d c (h3 d c h) }
theorem Inv.get(hi:Inv γ h0 io w0 s f w)(d:Nat):CR γ w (s.get d) (f d):=by
 unfold St.get;cases h:look s.sl d with
 |none=>simp[CR]
 |some c=>exact hi.sl d c h
theorem Inv.put(hi:Inv γ h0 io w0 s f w)(d:Nat)(c:C)(v:Value)(hc:CR γ w c v):Inv γ h0 io w0 (s.put (some d) c) (yo f d v) w:=
 {hi with
  sl:=λe c' h=>by
   simp only[St.put,look]at h;by_cases he:d=e
   ·subst he;simp at h;subst h
    simpa [yo] using hc
   ·rw[if_neg he]at h;have:yo f d v e=f e:=by
     unfold yo;cases hb:jy e d
     ·rfl
     ·exact absurd (mY hb).symm he
    rw[this];exact hi.sl e c' h }
theorem Inv.settle(hi:Inv γ h0 io w0 s f w){h':Nat->Nat}{ω':Nat->Own}(hh:∀g,γ.h g<=h' g)(hs:∀g,h' g≠γ.h g->g < w.heap.size/\(w0.heap.size<=g\/g∈io)/\(∀b cs,look s.bx b=some cs->γ.ω g≠.box b)/\∀r x,look s.rw r=some x->γ.ω g≠.row r)
  (qP:∀g,ω' g=γ.ω g\/((ω' g=.free\/ω' g=.dd)/\γ.ω g≠.free/\(∀b cs,look s.bx b=some cs->γ.ω g≠.box b)/\∀r x,look s.rw r=some x->γ.ω g≠.row r)) (hb:∀g b,ω' g=.box b->h' g=0):Inv {γ with h:=h',ω:=ω' } h0 io w0 s f w where
 sl d c hl:=(hi.sl d c hl).mono (γ':={γ with h:=h',ω:=ω' }) hh (λ_ _ _=>rfl) rfl rfl c
 bx b cs hl:=by
  obtain⟨T,vs,h1,h2,h3⟩:=hi.bx b cs hl;refine⟨T,vs,h1,h2.mono (γ':={γ with h:=h',ω:=ω' }) hh (λ_ _ _=>rfl) rfl rfl cs,?_⟩;rcases qP (γ.β b) with h|⟨_,_,h,_⟩
  ·exact h.trans h3
  ·exact absurd h3 (h b cs hl)
 rw r x hl:=by
  obtain⟨F,h1,h2,h3⟩:=hi.rw r x hl;refine⟨F,h1.cG (λg hg=>⟨?_,rfl⟩) hh (λ_ _ _=>rfl),h2,λg hg=>?_⟩
  ·rcases gq (h' g=γ.h g) with h|h
   ·exact h
   ·exact absurd (h3 g hg) ((hs g h).2.2.2 r x hl)
  ·rcases qP g with h|⟨_,_,_,h⟩
   ·exact h.trans (h3 g hg)
   ·exact absurd (h3 g hg) (h r x hl)
 own g hg:=by
  rcases qP g with h|⟨_,h,_⟩
  ·exact hi.own g (by rw[<- h];exact hg)
  ·exact hi.own g h
 lJ:=hb
 eM g hg:=by
  rcases gq (h' g=γ.h g) with h|h
  ·exact h.trans (hi.eM g hg)
  ·have:=(hs g h).1;omega
 os:=hi.os
 tape:=hi.tape
 output:=hi.output
 size:=hi.size
 frame:=hi.frame
 cell:=hi.cell
 mono g hg:=az (hi.mono g hg) (hh g)
 hold g hg hn:=by
  rcases gq (h' g=γ.h g) with h|h
  ·exact h.trans (hi.hold g hg hn)
  ·rcases (hs g h).2.1 with h'|h'
   ·omega
   ·exact absurd h' hn
 eV:=hi.eV
end
end
section
open Go.RowKit
def jl(N:Nat):Operand->KX->Bool
 | .tmp d,.s d'=>d ==d' && fh d N
 | .const (.int k n),.k (.d (.int k' n'))=>k ==k' && n ==n' && k.wrap n ==n
 | .const (.bool b),.k (.d (.bool b'))=>b ==b'
 | .const (.string s),.k (.d (.str s'))=>s.data.toList ==s'.data.toList && ny s.size maxLen
 | .const (.slice none 0 0),.k (.nil k _)=>fh 0 k
 |_,_=>false
section
variable {γ:Gh} {h0:Nat->Nat} {io:List Nat} {w0:World} {s:St} {f:Fm} {w:World} {N:Nat}
theorem gj{k:IntKind}{n:Int}(h:k.wrap n=n):CR γ w (.d (.int k n)) (.int k n):=by
 simp only[CR,Rp];exact⟨[],by simp[h],λ_ h=>by simp at h⟩
theorem gJ{b:Bool}:CR γ w (.d (.bool b)) (.bool b):=by
 simp only[CR,Rp];exact⟨[],by simp,λ_ h=>by simp at h⟩
theorem xu{t:ByteArray}(h:t.size<=maxLen):CR γ w (.d (.str t)) (.string t):=by
 simp only[CR,Rp];exact⟨[],by simp[h],λ_ h=>by simp at h⟩
theorem gT{k:IntKind}{n:Int}{v:Value}(h:CR γ w (.d (.int k n)) v):v=.int k n/\k.wrap n=n:=by
 simp only[CR,Rp]at h;obtain⟨_,⟨h1,_,h2⟩,_⟩:=h;exact⟨h1,h2⟩
theorem ox{b:Bool}{v:Value}(h:CR γ w (.d (.bool b)) v):v=.bool b:=by
 simp only[CR,Rp]at h;obtain⟨_,⟨h1,_⟩,_⟩:=h;exact h1
theorem zQ{t:ByteArray}{v:Value}(h:CR γ w (.d (.str t)) v):v=.string t/\t.size<=maxLen:=by
 simp only[CR,Rp]at h;obtain⟨_,⟨h1,_,h2⟩,_⟩:=h;exact⟨h1,h2⟩
theorem FY{a b:ByteArray}(h:a.data.toList=b.data.toList):a=b:=by
 cases a;cases b;simp at h;simp[h]
theorem bH(hi:Inv γ h0 io w0 s f w){x:Operand}{kx:KX}(ok:jl N x kx=true):CR γ w (eU s kx) ((fr f N).eval x):=by
 unfold jl at ok
 split at ok
 ·simp only[ab,beq_iff_eq]at ok;obtain⟨rfl,hd⟩:=ok;rw[yT f (by simpa using hd)];exact hi.get _
 ·simp only[ab,beq_iff_eq]at ok;obtain⟨⟨rfl,rfl⟩,hw⟩:=ok;exact gj hw
 ·simp only[beq_iff_eq]at ok;subst ok;exact gJ
 ·simp only[ab,beq_iff_eq,Nat.ble_eq]at ok;obtain⟨he,hw⟩:=ok;rw[FY he]at hw ⊢;exact xu hw
 ·simp only[lH]at ok;simp only[eU,CR];exact⟨rfl,ok⟩
 ·cases ok
end
structure om (γ:Gh) (s:St) (w w':World):Prop where
 cell:∀g j,j < γ.h g->w'.cell? ⟨g,j,none⟩=w.cell? ⟨g,j,none⟩
 bx:∀b cs,look s.bx b=some cs->w'.heap[γ.β b]?=w.heap[γ.β b]?
 rw:∀r x,look s.rw r=some x->∀g,γ.ω g=.row r->w'.heap[g]?=w.heap[g]?
theorem om.refl(γ:Gh)(s:St)(w:World):om γ s w w:=⟨λ_ _ _=>rfl,λ_ _ _=>rfl,λ_ _ _ _ _=>rfl⟩
def yD(N:Nat):List Operand->List KX->Bool
 |[],[]=>true
 |x::xs,y::ys=>jl N x y && yD N xs ys
 |_,_=>false
theorem Bq{γ:Gh}{h0:Nat->Nat}{io:List Nat}{w0:World}{s:St}{f:Fm}{w:World}{N:Nat}(hi:Inv γ h0 io w0 s f w):∀(xs:List Operand) (ys:List KX),yD N xs ys=true->dS γ w (ys.map (eU s)) (xs.map (fr f N).eval)
 |[],[],_=>by simp[dS]
 |[],_::_,h=>by simp[yD]at h
 |_::_,[],h=>by simp[yD]at h
 |x::xs,y::ys,h=>by
  simp only[yD,ab]at h;simp only[aN,dS];exact⟨_,_,rfl,bH hi h.1,Bq hi xs ys h.2⟩
def okZ:Value->C->Bool
 | .int k n,.d (.int k' n')=>k ==k' && n ==n' && k.wrap n ==n
 | .bool b,.d (.bool b')=>b ==b'
 | .string s,.d (.str s')=>s.data.toList ==s'.data.toList && ny s.size maxLen
 | .slice none 0 0,.nil k _=>fh 0 k
 |_,_=>false
def FH:List Value->List C->Bool
 |[],[]=>true
 |v::vs,c::cs=>okZ v c && FH vs cs
 |_,_=>false
theorem vx{γ:Gh}{w:World}:∀(vs:List Value) (cs:List C),FH vs cs=true->dS γ w cs vs
 |[],[],_=>by simp[dS]
 |[],_::_,h=>by simp[FH]at h
 |_::_,[],h=>by simp[FH]at h
 |v::vs,c::cs,h=>by
  simp only[FH,ab]at h;simp only[dS];refine⟨v,vs,rfl,?_,vx vs cs h.2⟩;have ok:=h.1;unfold okZ at ok
  split at ok
  ·simp only[ab,beq_iff_eq]at ok;obtain⟨⟨rfl,rfl⟩,hw⟩:=ok;exact gj hw
  ·simp only[beq_iff_eq]at ok;subst ok;exact gJ
  ·simp only[ab,beq_iff_eq,Nat.ble_eq]at ok;obtain⟨he,hw⟩:=ok;rw[FY he]at hw ⊢;exact xu hw
  ·simp only[lH]at ok;simp only[CR];exact⟨trivial,ok⟩
  ·cases ok
def GL(P:Program)(T:TypeId):Option Bool:=
 match P.underlying T with
 |some (.struct _)=>some true
 |some (.array _ _)=>some true
 |some _=>some false
 |none=>none
def mE(P:Program)(T:TypeId):Option Nat:=(P.info? T).map (·.size)
theorem nD{P:Program}{T:TypeId}{b:Bool}(h:GL P T=some b)(w:World):(isAgg T).run P w=.ok b w:=by
 unfold GL at h;cases hu:P.underlying T with
 |none=>rw[hu]at h;cases h
 |some d=>
  rw[hu]at h;cases d<;>simp at h<;>subst h<;>simp[isAgg,run_underlying hu]
theorem run_sizeOf{P:Program}{T:TypeId}{n:Nat}(h:mE P T=some n)(w:World):(kB T).run P w=.ok n w:=by
 unfold mE at h;cases hu:P.info? T with
 |none=>rw[hu]at h;cases h
 |some i=>
  rw[hu]at h;simp at h;subst h;simp[kB,typeInfo,hu]
def JN(P:Program)(T:TypeId)(i o:Nat):Bool:=
 match P.underlying T with
 |some (.struct fs)=>match fs[i]? with
  |some fd=>fd.offset ==o && (match mE P fd.type with
   |some n=>fh 0 n
   |none=>false)
  |none=>false
 |_=>false
def sliceB(P:Program)(T:TypeId)(k:Nat):Bool:=
 match P.underlying T with
 |some (.slice E)=>mE P E ==some k
 |_=>false
def aaw(P:Program)(T:TypeId)(n k:Nat):Bool:=
 match P.underlying T with
 |some (.array m E)=>m ==n && mE P E ==some k
 |_=>false
def aax(P:Program)(T:TypeId):Bool:=
 match P.underlying T with
 |some (.array _ E)=>(P.info? E).isSome
 |_=>false
def isStr(P:Program)(T:TypeId):Bool:=
 match P.underlying T with
 |some .string=>true
 |_=>false
def HQ(P:Program)(T:TypeId):Bool:=
 match P.underlying T with
 |some (.slice _)=>true
 |_=>false
def FX(P:Program)(T:TypeId):Option Nat:=
 match P.underlying T with
 |some (.slice E)=>mE P E
 |_=>none
def Yg(P:Program)(T:TypeId):Bool:=
 match P.underlying T with
 |some (.slice E)=>(match P.underlying E with
  |some (.int .u8)=>true
  |_=>false)
 |_=>false
def isBool(P:Program)(T:TypeId):Bool:=
 match P.underlying T with
 |some .bool=>true
 |_=>false
def Uu(P:Program)(T:TypeId):Option IntKind:=
 match P.underlying T with
 |some (.int k)=>some k
 |_=>none
def vz(P:Program)(T:TypeId):Option (List (Nat×Nat)):=
 match P.underlying T with
 |some (.struct fs)=>fs.toList.mapM (λf=>(P.info? f.type).map λi=>(f.offset,i.size))
 |_=>none
def qU(P:Program)(T:TypeId):Option (List Value):=((P.info? T).bind (·.zero)).map λz=>z.cells.toList
def s_(N:Nat)(pl:List (Nat×Nat)):List (Nat×Operand)->List (Nat×Nat×KX)->Bool
 |[],[]=>true
 |(i,x)::ps,(o,n,kx)::ks=>pl[i]? ==some (o,n) && jl N x kx && s_ N pl ps ks
 |_,_=>false
def yB(N:Nat):Option Operand->Option KX->Bool
 |none,none=>true
 |some x,some y=>jl N x y
 |_,_=>false
theorem mA{γ:Gh}{h0:Nat->Nat}{io:List Nat}{w0:World}{s:St}{f:Fm}{w:World}{N:Nat}(hi:Inv γ h0 io w0 s f w){o:Option Operand}{kx:Option KX}{z m:Nat}(bY:yB N o kx=true)(he:pO s kx z=some m):I6 (fr f N).eval o z m:=by
 cases o with
 |none=>
  cases kx with
  |none=>simp only[pO,aa]at he;simp only[I6];exact he.symm
  |some y=>simp[yB]at bY
 |some x=>
  cases kx with
  |none=>simp[yB]at bY
  |some y=>
   simp only[yB]at bY;have hr:=bH hi bY;simp only[pO]at he
   split at he
   ·rename_i n hn;rw[hn]at hr;obtain⟨hv,_⟩:=gT hr
    split at he
    ·rename_i h0;simp only[aa]at he;subst he;simp only[I6,hv]
     congr 1
     omega
    ·cases he
   ·cases he
def qz(P:Program)(N:Nat):Op->KO->Bool
 | .move x,.mv y=>jl N x y
 | .assign x,.mv y=>jl N x y
 | .pick c a b,.pick c' a' b'=>jl N c c' && jl N a a' && jl N b b'
 | .build T ps,.build zs ks=>(match qU P T,vz P T with
   |some z,some pl=>FH z zs && s_ N pl ps.toList ks
   |_,_=>false)
 | .load T x,.ld n y=>jl N x y && (if n=0 then GL P T ==some false else GL P T ==some true && mE P T ==some n)
 | .fieldAddr T x i,.fa o y=>jl N x y && JN P T i o
 | .indexAddr T x i,.ia k y j=>jl N x y && jl N i j && sliceB P T k
 | .build T ps,.zro zs=>ps.isEmpty && aax P T && (match qU P T with
   |some z=>FH z zs
   |none=>false)
 | .indexAddr T x i,.Wv n k y j=>jl N x y && jl N i j && aaw P T n k
 | .index T x i,.kW y j=>jl N x y && jl N i j && isStr P T
 | .binOp op T x y _,.bin op' x' y'=>decide (op=op') && jl N x x' && jl N y y'
 | .binOp op T x y _,.uS op' x' y'=>decide (op=op') && jl N x x' && jl N y y' && isBool P T
 | .unOp .not _ x,.not y=>jl N x y
 | .unOp .neg _ x,.neg y=>jl N x y
 | .convert T T' x,.conv k y=>jl N x y && (Uu P T).isSome && Uu P T' ==some k
 | .call c,.len y=>(match c.callee,c.args.toList,c.argTypes.toList with
   | .builtin .len,[x],[T]=>jl N x y && HQ P T
   |_,_,_=>false)
 | .call c,.kQ y=>(match c.callee,c.args.toList,c.argTypes.toList with
   | .builtin .len,[x],[T]=>jl N x y && isStr P T
   |_,_,_=>false)
 | .call c,.min y y'=>(match c.callee,c.args.toList with
   | .builtin .min,[x,x']=>jl N x y && jl N x' y'
   |_,_=>false)
 | .call c,.max y y'=>(match c.callee,c.args.toList with
   | .builtin .max,[x,x']=>jl N x y && jl N x' y'
   |_,_=>false)
 | .extract x i,.ext y j=>jl N x y && i ==j
 | .slice T x none (some h) none,.slc y j=>jl N x y && jl N h j && HQ P T && (FX P T).isSome
 | .slice T x lo hi none,.Ji y l h=>jl N x y && yB N lo l && yB N hi h && isStr P T
 | .slice T x lo hi none,.yi k y l h=>jl N x y && yB N lo l && yB N hi h && FX P T ==some k
 | .nilCheck x,.WG y=>jl N x y
 | .convert T T' x,.yq y=>jl N x y && isStr P T' && Yg P T
 |_,_=>false
theorem cV{α:Type}:∀(l:List α) (i:Nat),nth l i=l[i]?
 |[],i=>by simp[nth]
 |x::l,0=>by simp[nth]
 |x::l,i+1=>by simp[nth,cV l i]
theorem dS.length{γ:Gh}{w:World}:∀{cs:List C} {vs:List Value},dS γ w cs vs->vs.length=cs.length
 |[],_,h=>by simp only[dS]at h;simp[h]
 |c::cs,_,h=>by
  simp only[dS]at h;obtain⟨v,eb,rfl,_,h3⟩:=h;simp[dS.length h3]
theorem dS.at_{γ:Gh}{w:World}:∀{cs:List C} {vs:List Value},dS γ w cs vs->∀{i:Nat} {c:C},cs[i]?=some c->∃v,vs[i]?=some v/\CR γ w c v
 |[],_,_,i,c,hi=>by simp at hi
 |x::cs,_,h,i,c,hi=>by
  simp only[dS]at h;obtain⟨v,eb,rfl,h2,h3⟩:=h;cases i with
  |zero=>simp at hi;subst hi;exact⟨v,rfl,h2⟩
  |succ i=>simp at hi;simpa using dS.at_ h3 hi
theorem dS.drop{γ:Gh}{w:World}:∀{cs:List C} {vs:List Value} (n:Nat),dS γ w cs vs->dS γ w (cs.drop n) (vs.drop n)
 |cs,_,0,h=>by simpa using h
 |[],_,n+1,h=>by simp only[dS]at h;subst h;simp[dS]
 |c::cs,_,n+1,h=>by
  simp only[dS]at h;obtain⟨v,eb,rfl,_,h3⟩:=h
  simpa using dS.drop n h3
theorem dS.take{γ:Gh}{w:World}:∀{cs:List C} {vs:List Value} (n:Nat),dS γ w cs vs->dS γ w (cs.take n) (vs.take n)
 |cs,_,0,h=>by simp[dS]
 |[],_,n+1,h=>by simp only[dS]at h;subst h;simp[dS]
 |c::cs,_,n+1,h=>by
  simp only[dS]at h;obtain⟨v,eb,rfl,h2,h3⟩:=h;simp only[cD,dS];exact⟨v,_,rfl,h2,dS.take n h3⟩
theorem dS.append{γ:Gh}{w:World}:∀{cs ds:List C} {vs us:List Value},dS γ w cs vs->dS γ w ds us->dS γ w (cs++ds) (vs++us)
 |[],_,_,_,h,h'=>by simp only[dS]at h;subst h;simpa using h'
 |c::cs,_,_,_,h,h'=>by
  simp only[dS]at h;obtain⟨v,eb,rfl,h2,h3⟩:=h;simp only[ai,dS];exact⟨v,_,rfl,h2,dS.append h3 h'⟩
theorem dS.ZG{γ:Gh}{w:World}{cs ds:List C}{vs us:List Value}(o:Nat)(h:dS γ w cs vs)(h':dS γ w ds us):dS γ w (fP cs o ds) (cZ vs o us):=by
 unfold fP cZ;rw[<- h'.length];exact ((h.take o).append h').append (h.drop _)
theorem dS.ofC{γ:Gh}{w:World}:∀{ds:List D} {vs:List Value} {F:Fp},ee w ds vs F->dm γ.h F->dS γ w (ds.map .d) vs
 |[],_,_,h,_=>by simp only[ee]at h;simp[dS,h.1]
 |d::ds,_,_,h,hs=>by
  simp only[ee]at h;obtain⟨v,eb,F1,F2,rfl,rfl,h3,h4⟩:=h;simp only[aN,dS];refine⟨v,eb,rfl,?_,dS.ofC h4 (hs.sub (by simp_all))⟩;simp only[CR];exact⟨F1,h3,hs.sub (by simp_all)⟩
theorem CR.cells{γ:Gh}{w:World}{c:C}{v:Value}(h:CR γ w c v)(hc:c.cells.all C.cell=true):dS γ w c.cells v.cells.toList/\(c.isAgg=false->v.cells=#[v])/\(c.isAgg=true->∃vs:List Value,v=.agg vs.toArray):=by
 cases c with
 |agg cs=>
  simp only[CR]at h;obtain⟨vs,rfl,h2⟩:=h;exact⟨by simpa [C.cells,Value.cells] using h2,by simp[C.isAgg],λ_=>⟨vs,rfl⟩⟩
 |d x=>
  have h':=h;simp only[CR]at h;obtain⟨F,h1,_⟩:=h;have ho:=h1.qQ;have e:v.cells=#[v]:=by cases v<;>simp_all[Value.cells,one]
  refine⟨?_,λ_=>e,by simp[C.isAgg]⟩;rw[e];simp only[C.cells,dS];exact⟨v,[],rfl,h',rfl⟩
 |nil k fl=>
  have h':=h;simp only[CR]at h;obtain⟨rfl,_⟩:=h;refine⟨?_,λ_=>rfl,by simp[C.isAgg]⟩;simp only[C.cells,Value.cells,dS];exact⟨_,[],rfl,h',rfl⟩
 |ref r=>
  have h':=h;simp only[CR]at h;obtain⟨_,A,n,c,rfl⟩:=h;refine⟨?_,λ_=>rfl,by simp[C.isAgg]⟩;simp only[C.cells,Value.cells,dS];exact⟨_,[],rfl,h',rfl⟩
 |ptr _ _=>simp[C.cells,C.cell]at hc
 |na _ _ _ _=>simp[C.cells,C.cell]at hc
 |qN _=>simp[C.cells,C.cell]at hc
 |oK _=>simp[C.cells,C.cell]at hc
 |rf=>simp[C.cells,C.cell]at hc
 |any=>simp[C.cells,C.cell]at hc
theorem RR(off:Nat):∀(vs:List Value) (j:Nat) (A:Array Value),off+j+vs.length<=A.size->(vs.zipIdx j).foldl (λa p=>a.setIfInBounds (off+p.2) p.1) A=(cZ A.toList (off+j) vs).toArray
 |[],j,A,_=>by simp[cZ]
 |v::vs,j,A,h=>by
  simp only[aE]at h;simp only[List.zipIdx_cons,tm];rw[RR off vs (j+1) _ (by simp;omega),<- dv,<- yk _ _ _ _ (by simp;omega)];simp
theorem MG(off:Nat)(vs:List Value)(A:Array Value)(h:off+vs.length<=A.size):vs.toArray.zipIdx.foldl (λa (c,j)=>a.setIfInBounds (off+j) c) A=(cZ A.toList off vs).toArray:=by
 have h1:=RR off vs 0 A (by simpa using h);rw[<- Array.foldl_toList]
 simpa using h1
theorem Hr{γ:Gh}{h0:Nat->Nat}{io:List Nat}{w0:World}{s:St}{f:Fm}{w:World}{N:Nat}(hi:Inv γ h0 io w0 s f w){pl:List (Nat×Nat)}{place:Nat->Option (Nat×Nat)}(hp:∀i,place i=pl[i]?) :
  ∀(ps:List (Nat×Operand)) (ks:List (Nat×Nat×KX)) (zs:List C) (zv:List Value) (iA:List C),s_ N pl ps ks=true->dS γ w zs zv->xT zs (ks.map λp=>(p.1,p.2.1,(eU s p.2.2).cells))=some iA->
   ∃eb:List Value,Instr.fill place zv.toArray (ps.map λp=>(p.1,(fr f N).eval p.2))=some eb.toArray/\dS γ w iA eb
 |[],[],zs,zv,iA,_,hz,hf=>by
  simp only[dD,xT,aa]at hf;subst hf;exact⟨zv,rfl,hz⟩
 |[],_::_,_,_,_,h,_,_=>by simp[s_]at h
 |_::_,[],_,_,_,h,_,_=>by simp[s_]at h
 |(i,x)::ps,(o,n,kx)::ks,zs,zv,iA,h,hz,hf=>by
  simp only[s_,ab,beq_iff_eq]at h;obtain⟨⟨h1,h2⟩,h3⟩:=h;simp only[aN,xT]at hf
  split at hf
  ·rename_i hc;obtain⟨c1,c2,c3⟩:=hc;have hx:=bH hi h2;obtain⟨hr,_,_⟩:=hx.cells c3;have hl:=hr.length;obtain⟨eb,h4,h5⟩:=Hr hi hp ps ks _ _ iA h3 (hz.ZG o hr) hf;refine⟨eb,?_,h5⟩;simp only[aN,Instr.fill,hp,h1];have mH:((fr f N).eval x).cells.size=n:=by rw[<- eI,hl];exact c1
   have hz':=hz.length;rw[if_neg (by simp only[pX];simp;omega)];have e:((fr f N).eval x).cells.zipIdx.foldl (λcs (c,j)=>cs.setIfInBounds (o+j) c) zv.toArray=(cZ zv o ((fr f N).eval x).cells.toList).toArray:=by
    have:=MG o ((fr f N).eval x).cells.toList zv.toArray (by simp;omega)
    simpa using this
   rw[e];exact h4
  ·cases hf
theorem Px{P:Program}{T:TypeId}{z:List Value}{pl:List (Nat×Nat)}(hz:qU P T=some z)(hp:vz P T=some pl)(parts:List (Nat×Value)):P.built T parts=Instr.fill (λi=>pl[i]?) z.toArray parts:=by
 unfold vz at hp;unfold qU at hz;cases hi:P.info? T with
 |none=>rw[hi]at hz;simp at hz
 |some it=>
  rw[hi]at hz;cases Uq:it.zero with
  |none=>simp[Uq]at hz
  |some z0=>
   simp[Uq]at hz;subst hz
   split at hp
   ·rename_i fs hu;simp only[Program.built,hi,hu,Uq,hp];simp
   ·cases hp
section
variable {P:Program} {γ:Gh} {h0:Nat->Nat} {io:List Nat} {w0:World} {s:St} {f:Fm} {w:World} {N:Nat} {dst:Option Tmp} {ty:TypeId} {pos:String} {aft:Array Edge} {gd:Option (Nat×Bool)}
theorem U7(hi:Inv γ h0 io w0 s f w){T:TypeId}{ps:Array (Nat×Operand)}{zs:List C}{ks:List (Nat×Nat×KX)}{c:C}(bY:qz P N (.build T ps) (.build zs ks)=true)(he:gH s (.build zs ks)=some c) :
  ∃v,CR γ w c v/\∀w',(execOp (fr f N).eval ⟨dst,.build T ps,ty,pos,aft,gd⟩).run P w'=.ok (.value v) w':=by
 simp only[qz]at bY
 split at bY
 ·rename_i z pl hz hp;simp only[ab]at bY;simp only[gH,ad]at he;obtain⟨iA,he,rfl⟩:=he;obtain⟨eb,h1,h2⟩:=Hr hi (place:=λi=>pl[i]?) (λ_=>rfl) ps.toList ks zs z iA bY.2 (vx _ _ bY.1) he;refine⟨.agg eb.toArray,by simp only[CR];exact⟨eb,rfl,h2⟩,λw'=>?_⟩;have hb:=run_build (P:=P) w' T (ps.map λ(i,x)=>(i,(fr f N).eval x)) eb.toArray (by rw[Px hz hp];simpa using h1);simp[execOp,hb]
 ·cases bY
theorem acG(hi:Inv γ h0 io w0 s f w){T:TypeId}{ps:Array (Nat×Operand)}{zs:List C}{c:C}(bY:qz P N (.build T ps) (.zro zs)=true)(he:gH s (.zro zs)=some c) :
  ∃v,CR γ w c v/\∀w',(execOp (fr f N).eval ⟨dst,.build T ps,ty,pos,aft,gd⟩).run P w'=.ok (.value v) w':=by
 simp only[qz,ab,Array.isEmpty_iff]at bY;obtain⟨⟨rfl,ha⟩,bY⟩:=bY
 split at bY
 ·rename_i z hz;simp only[gH]at he
  split at he
  ·simp only[aa]at he;subst he;refine⟨.agg z.toArray,by simp only[CR];exact⟨z,rfl,vx _ _ bY⟩,λw'=>?_⟩;have hb:P.built T []=some z.toArray:=by
    unfold qU at hz;unfold aax at ha;cases hi:P.info? T with
    |none=>rw[hi]at hz;simp at hz
    |some it=>
     rw[hi]at hz;cases Uq:it.zero with
     |none=>simp[Uq]at hz
     |some z0=>
      simp[Uq]at hz;subst hz
      split at ha
      ·rename_i m E hu;rw[bF]at ha;obtain⟨ie,hie⟩:=ha;simp[Program.built,hi,hu,Uq,hie,Instr.fill]
      ·cases ha
   have hr:=run_build (P:=P) w' T #[] z.toArray hb;simp[execOp,hr]
  ·cases he
 ·cases bY
theorem YD(hi:Inv γ h0 io w0 s f w){T:TypeId}{x:Operand}{y:KX}{n:Nat}{c:C}(bY:qz P N (.load T x) (.ld n y)=true)(he:gH s (.ld n y)=some c) :
  ∃v,CR γ w c v/\∀w',om γ s w w'->(execOp (fr f N).eval ⟨dst,.load T x,ty,pos,aft,gd⟩).run P w'=.ok (.value v) w':=by
 simp only[qz,ab]at bY;obtain⟨hx,jO⟩:=bY;have hr:=bH hi hx;have fin:∀(b o:Nat) (vs:List Value),(fr f N).eval x=.pointer (some ⟨b,o,none⟩)->(∀w',om γ s w w'->gz w' b o vs)->(n=0->vs.length=1)->(n≠0->vs.length=n)->
   ∀w',om γ s w w'->(execOp (fr f N).eval ⟨dst,.load T x,ty,pos,aft,gd⟩).run P w'=.ok (.value (if n=0 then vs.headD undef else .agg vs.toArray)) w':=by
  intro b o vs hp hl h1 h2 w' hs;by_cases hn:n=0
  ·subst hn;simp only[if_true,beq_iff_eq]at jO ⊢;obtain⟨v,rfl⟩:=cJ.1 (h1 rfl);exact Gl (λw=>nD jO w) hp (by have:=hl w' hs 0 v rfl;simpa using this)
  ·simp only[if_neg hn,ab,beq_iff_eq]at jO ⊢;exact Gn (λw=>nD jO.1 w) (λw=>run_sizeOf jO.2 w) hp (h2 hn) (hl w' hs)
 simp only[gH]at he
 split at he
 ·rename_i b o hb;rw[hb]at hr;simp only[CR]at hr
  split at he
  ·rename_i cs hl;obtain⟨T',vs,h1,h2,h3⟩:=hi.bx b cs hl;have hlen:=h2.length;have gF:∀(m:Nat) w',om γ s w w'->gz w' (γ.β b) o ((vs.drop o).take m):=by
    intro m w' hs;have:=(h1.cG (hs.bx b cs hl)).J9;have h4:=this.sub o m
    simpa using h4
   by_cases hn:n=0
   ·subst hn;simp only[if_true,cV]at he;obtain⟨v,hv,hc⟩:=h2.at_ he;have ic:=(aI.1 hv).1;have e1:(vs.drop o).take 1=[v]:=by
     rw[ng,nZ,hv];rfl
    refine⟨v,hc,λw' hs=>?_⟩;have:=fin _ _ _ hr (gF 1) (λ_=>by rw[e1];rfl) (λh=>absurd rfl h) w' hs;rw[e1]at this
    simpa using this
   ·rw[if_neg hn]at he
    split at he
    ·rename_i ho;simp only[aa]at he;subst he;refine⟨.agg ((vs.drop o).take n).toArray,by simp only[CR];exact⟨_,rfl,(h2.drop o).take n⟩,λw' hs=>?_⟩;have:=fin _ _ _ hr (gF n) (λh=>absurd h hn) (λ_=>by simp;omega) w' hs
     simpa [hn] using this
    ·cases he
  ·cases he
 ·rename_i cs hb;rw[hb]at hr;simp only[CR]at hr;obtain⟨b,o,vs,F,hp,NB,jV,hl,hh⟩:=hr;have hlen:=ee.length cs NB;have gF:∀(m:Nat) w',om γ s w w'->gz w' b o (vs.take m):=by
   intro m w' hs;have:gz w' b o vs:=by
    intro j u hu;have hj:=(aI.1 hu).1;rw[hs.cell b (o+j) (hh j (by omega))];exact hl j u hu
   have h4:=this.sub 0 m
   simpa using h4
  by_cases hn:n=0
  ·subst hn;simp only[if_true,cV,ad]at he;obtain⟨d,hd,rfl⟩:=he;obtain⟨v,G,hv,uK,hG⟩:=NB.at_ hd;have e1:vs.take 1=[v]:=by
    rw[ng,List.head?_eq_getElem?,hv];rfl
   refine⟨v,by simp only[CR];exact⟨G,uK,jV.sub hG⟩,λw' hs=>?_⟩;have:=fin _ _ _ hp (gF 1) (λ_=>by rw[e1];rfl) (λh=>absurd rfl h) w' hs;rw[e1]at this
   simpa using this
  ·rw[if_neg hn]at he
   split at he
   ·rename_i ho;simp only[aa]at he;subst he;obtain⟨G,h4,h5⟩:=ee.take cs n NB;refine⟨.agg (vs.take n).toArray,by simp only[CR];exact⟨_,rfl,dS.ofC h4 (jV.sub h5)⟩,λw' hs=>?_⟩;have:=fin _ _ _ hp (gF n) (λh=>absurd h hn) (λ_=>by simp;omega) w' hs
    simpa [hn] using this
   ·cases he
 ·rename_i r k i o hb;rw[hb]at hr;simp only[CR]at hr;obtain⟨g,p,m,cc,sS,hp⟩:=hr
  split at he
  ·rename_i row hl
   split at he
   ·rename_i e Ez
    split at he
    ·rename_i hc;obtain⟨hk,ho,hpl⟩:=hc;subst hk;obtain⟨F,hR,_,qP⟩:=hi.rw r row hl;obtain⟨A,n',c',q1,q2,q3,q4,q5,q6,q7,q8⟩:=hR;rw[sS]at q1;simp only[Value.slice.injEq]at q1;obtain⟨rfl,rfl,rfl⟩:=q1;rcases q8 with ⟨q8,_⟩|⟨g',p',xs,G,a1,a2,a3,a4,a5,a6,a7,a8,a9,sI⟩
     ·cases q8
     ·simp only[aa,Addr.mk.injEq,and_true]at a1;obtain⟨rfl,rfl⟩:=a1;rw[cV]at Ez;obtain⟨G',NB,hG'⟩:=a4.at_ q6 Ez;have hlx:=eD.length row.es a4 q6;have XQ:=(aI.1 Ez).1;have yw:=q6 e (cK Ez);have We:g∈F:=by
       cases hd:row.deep with
       |true=>rw[(a9 hd).1];simp
       |false=>rw[(sI hd).1];simp
      have gF:∀(m:Nat) w',om γ s w w'->gz w' g (p+i * row.k+o) ((((xs.drop (i * row.k)).take row.k).drop o).take m):=by
       intro m w' hs;have h1:gz w' g p xs:=a5.cG (hs.rw r row hl g (qP g We));have h2:=(h1.sub (i * row.k) row.k).sub o m;exact h2
      have Wo:∀(m:Nat),cQ ((e.drop o).take m)=true\/row.deep=false->∃G2,ee w ((e.drop o).take m) ((((xs.drop (i * row.k)).take row.k).drop o).take m) G2/\dm γ.h G2:=by
       intro m hm;obtain⟨G1,r1,s1⟩:=ee.drop e o NB;obtain⟨G2,r2,s2⟩:=ee.take _ m r1;refine⟨G2,r2,?_⟩;rcases hm with hm|hm
       ·have:G2=[]:=r2.plain (by simpa [cQ] using hm);subst this;exact λ_ h=>by simp at h
       ·exact (sI hm).2.sub (λbe hb=>hG' be (s1 be (s2 be hb)))
      have abu:∀m,m=max n 1->cQ ((e.drop o).take m)=true\/row.deep=false:=by
       intro m hm;subst hm
       simpa using hpl
      have hlen:((xs.drop (i * row.k)).take row.k).length=row.k:=by
       rw[ee.length e NB,yw]
      by_cases hn:n=0
      ·subst hn;simp only[if_true,cV,ad]at he;obtain⟨d,hd,rfl⟩:=he;obtain⟨G2,r2,s2⟩:=Wo 1 (abu 1 (by simp));have e1:(e.drop o).take 1=[d]:=by rw[ng,nZ,hd];rfl
       rw[e1]at r2;obtain⟨v,G3,hv,uK,hG4⟩:=r2.at_ (i:=0) (d:=d) rfl;have e2:(((xs.drop (i * row.k)).take row.k).drop o).take 1=[v]:=by
        have Ja:=ee.length _ r2;simp only[aE,aQ]at Ja;obtain⟨u,hu⟩:=cJ.1 Ja;rw[hu]at hv ⊢;simp at hv;rw[hv]
       refine⟨v,by simp only[CR];exact⟨G3,uK,s2.sub hG4⟩,λw' hs=>?_⟩;have:=fin _ _ _ hp (gF 1) (λ_=>by rw[e2];rfl) (λh=>absurd rfl h) w' hs;rw[e2]at this
       simpa using this
      ·rw[if_neg hn]at he;simp only[aa]at he;subst he;have XV:max n 1=n:=by omega
       obtain⟨G2,r2,s2⟩:=Wo n (abu n XV.symm);refine⟨.agg ((((xs.drop (i * row.k)).take row.k).drop o).take n).toArray,by simp only[CR];exact⟨_,rfl,dS.ofC r2 s2⟩,λw' hs=>?_⟩;have:=fin _ _ _ hp (gF n) (λh=>absurd h hn) (λ_=>by simp only[aY,gN,hlen];omega) w' hs
       simpa [hn] using this
    ·cases he
   ·cases he
  ·cases he
 ·cases he
theorem ahc(hi:Inv γ h0 io w0 s f w){T:TypeId}{x:Operand}{y:KX}{i o:Nat}{c:C}(bY:qz P N (.fieldAddr T x i) (.fa o y)=true)(he:gH s (.fa o y)=some c) :
  ∃v,CR γ w c v/\∀w',(execOp (fr f N).eval ⟨dst,.fieldAddr T x i,ty,pos,aft,gd⟩).run P w'=.ok (.value v) w':=by
 simp only[qz,ab]at bY;obtain⟨hx,jO⟩:=bY;have hr:=bH hi hx;unfold JN at jO
 split at jO
 ·rename_i fs hu
  split at jO
  ·rename_i fd hfd;simp only[ab,beq_iff_eq]at jO;obtain⟨ho,mH⟩:=jO
   split at mH
   ·rename_i n hn;simp only[lH]at mH;obtain⟨m,rfl⟩:∃m,n=m+1:=⟨n - 1,by omega⟩
    have fin:∀b p,(fr f N).eval x=.pointer (some ⟨b,p,none⟩)->∀w',(execOp (fr f N).eval ⟨dst,.fieldAddr T x i,ty,pos,aft,gd⟩).run P w'=.ok (.value (.pointer (some ⟨b,p+o,none⟩))) w':=
     λb p hp w'=>MW hu hfd (λw=>run_sizeOf hn w) ho hp
    simp only[gH]at he
    split at he
    ·rename_i b p hb;rw[hb]at hr;simp only[CR]at hr;simp only[aa]at he;subst he;exact⟨_,by simp only[CR],fin _ _ hr⟩
    ·rename_i cs hb;rw[hb]at hr;simp only[CR]at hr;simp only[aa]at he;subst he;obtain⟨b,p,vs,F,hp,NB,jV,hl,hh⟩:=hr;obtain⟨G,h4,h5⟩:=ee.drop cs o NB;refine⟨_,?_,fin _ _ hp⟩;simp only[CR];refine⟨b,p+o,vs.drop o,G,rfl,h4,jV.sub h5,?_,?_⟩
     ·intro j u hu;rw[gW]at hu;rw[dv];exact hl _ u hu
     ·intro j hj;rw[gN]at hj;rw[dv];exact hh _ (by omega)
    ·rename_i r k i' p hb;rw[hb]at hr;simp only[CR]at hr;simp only[aa]at he;subst he;obtain⟨g,q,n,cc,h1,h2⟩:=hr;refine⟨_,?_,fin _ _ h2⟩;simp only[CR];exact⟨g,q,n,cc,h1,by rw[dv (q+i' * k)]⟩
    ·cases he
   ·cases mH
  ·cases jO
 ·cases jO
theorem ahd(hi:Inv γ h0 io w0 s f w){T:TypeId}{x ix:Operand}{y j:KX}{k:Nat}{c:C}(bY:qz P N (.indexAddr T x ix) (.ia k y j)=true)(he:gH s (.ia k y j)=some c) :
  ∃v,CR γ w c v/\∀w',(execOp (fr f N).eval ⟨dst,.indexAddr T x ix,ty,pos,aft,gd⟩).run P w'=.ok (.value v) w':=by
 simp only[qz,ab]at bY;obtain⟨⟨hx,hj⟩,jO⟩:=bY;have hr:=bH hi hx;have yX:=bH hi hj;unfold sliceB at jO
 split at jO
 ·rename_i E hu;simp only[beq_iff_eq]at jO;simp only[gH]at he
  split at he
  ·rename_i k' fl es n hb hn;rw[hb]at hr;rw[hn]at yX;obtain⟨rn,_⟩:=gT yX
   split at he
   ·rename_i hc;obtain⟨h1,rfl⟩:=hc;simp only[cV,ad]at he;obtain⟨e,Ez,rfl⟩:=he;simp only[CR,Rp]at hr;obtain⟨F,⟨A,m,cc,q1,q2,q3,q4,q5,q6,q7,q8⟩,jV⟩:=hr;have ic:=(aI.1 Ez).1;rcases q8 with ⟨q8,_⟩|⟨_,b,o,xs,G,rfl,rfl,a2,a3⟩
    ·omega
    ·refine⟨.pointer (some ⟨b,o+n.toNat * k',none⟩),?_,λw'=>qF hu (λw=>run_sizeOf jO w) q1 rn (by omega) (by omega)⟩;obtain⟨G',NB,hG'⟩:=a2.at_ q7 Ez;simp only[CR];refine⟨b,_,_,G',rfl,NB,jV.sub (λbe hb=>by simp[hG' be hb]),a3.sub _ _,?_⟩;intro i oX;have yw:=q7 e (cK Ez);have hs:=jV (b,o+m * k') (by simp);simp only at hs
     have:n.toNat * k'+k'<=m * k':=by
      rw[<- iE];exact er _ (by omega)
     omega
   ·cases he
  ·rename_i r n hb hn;rw[hb]at hr;rw[hn]at yX;obtain⟨rn,_⟩:=gT yX
   split at he
   ·rename_i row hl
    split at he
    ·rename_i hc;obtain⟨h1,h2,rfl⟩:=hc;simp only[aa]at he;subst he;simp only[CR]at hr;obtain⟨hr,_⟩:=hr;obtain⟨F,hR,_,qP⟩:=hi.rw r row hl;obtain⟨A,n',c',q1,q2,q3,q4,q5,q6,q7,q8⟩:=hR;rcases q8 with ⟨rfl,q8,_⟩|⟨g',p',xs,G,rfl,a2,a3,a4,a5,a6,a7,a8,a9,sI⟩
     ·omega
     ·refine⟨.pointer (some ⟨g',p'+n.toNat * row.k,none⟩),?_,λw'=>qF hu (λw=>run_sizeOf jO w) (hr.trans q1) rn (by omega) (by omega)⟩;simp only[CR];exact⟨g',p',n',c',q1,by simp⟩
    ·cases he
   ·cases he
  ·cases he
 ·cases jO
theorem S6{ρ:Operand->Value}{x y:Operand}{b o n:Nat}{i:Nat}{a:Int}{T E:TypeId}{k:Nat}(hU:P.underlying T=some (.array n E))(hS:∀w,(kB E).run P w=.ok k w)(hx:ρ x=.pointer (some ⟨b,o,none⟩))(hy:ρ y=.int .i64 a)(ha:a=(i:Int))(hi:i < n) :
  (execOp ρ ⟨dst,.indexAddr T x y,ty,pos,aft,gd⟩).run P w=.ok (.value (.pointer (some ⟨b,o+i * k,none⟩))) w:=by
 subst ha;simp[execOp,Instr.indexAt,hx,hy,asIntOf,Instr.sureAddr,run_underlying hU,hS,nH,hi]
theorem acB(hi:Inv γ h0 io w0 s f w){T:TypeId}{x ix:Operand}{y j:KX}{n k:Nat}{c:C}(bY:qz P N (.indexAddr T x ix) (.Wv n k y j)=true)(he:gH s (.Wv n k y j)=some c) :
  ∃v,CR γ w c v/\∀w',(execOp (fr f N).eval ⟨dst,.indexAddr T x ix,ty,pos,aft,gd⟩).run P w'=.ok (.value v) w':=by
 simp only[qz,ab]at bY;obtain⟨⟨hx,hj⟩,jO⟩:=bY;have hr:=bH hi hx;have yX:=bH hi hj;unfold aaw at jO
 split at jO
 ·rename_i m E hu;simp only[ab,beq_iff_eq]at jO;obtain⟨rfl,mH⟩:=jO;simp only[gH]at he
  split at he
  ·rename_i b o q hb hn;rw[hb]at hr;rw[hn]at yX;obtain⟨rn,_⟩:=gT yX;simp only[CR]at hr
   split at he
   ·rename_i hc;simp only[aa]at he;subst he;exact⟨_,by simp only[CR],λw'=>S6 hu (λw=>run_sizeOf mH w) hr rn (by omega) hc.2⟩
   ·cases he
  ·cases he
 ·cases jO
theorem acC(hi:Inv γ h0 io w0 s f w){T:TypeId}{x ix:Operand}{y j:KX}{c:C}(bY:qz P N (.index T x ix) (.kW y j)=true)(he:gH s (.kW y j)=some c) :
  ∃v,CR γ w c v/\∀w',(execOp (fr f N).eval ⟨dst,.index T x ix,ty,pos,aft,gd⟩).run P w'=.ok (.value v) w':=by
 simp only[qz,ab]at bY;obtain⟨⟨hx,hj⟩,jO⟩:=bY;have hr:=bH hi hx;have yX:=bH hi hj;unfold isStr at jO
 split at jO
 ·rename_i hu;simp only[gH]at he
  split at he
  ·rename_i t n hb hn;rw[hb]at hr;rw[hn]at yX;obtain⟨rn,_⟩:=gT yX;obtain⟨oc,_⟩:=zQ hr
   split at he
   ·rename_i hc;simp only[aa]at he;subst he;refine⟨_,gj ?_,λw'=>S8 hu oc rn (by omega) hc.2⟩;have:=pY t n.toNat;simp[IntKind.wrap,IntKind.bits,IntKind.signed];omega
   ·cases he
  ·cases he
 ·cases jO
theorem wJ{n:Int}(h:IntKind.i64.wrap n=n):-9223372036854775808<=n/\n<=9223372036854775807:=by
 simp[IntKind.wrap,IntKind.bits,IntKind.signed]at h
 split at h<;>omega
theorem bN{n:Int}(h:-9223372036854775808<=n/\n<=9223372036854775807):IntKind.i64.wrap n=n:=IntWalk.i64_in _ h
theorem wrap_wrap(k:IntKind)(n:Int):k.wrap (k.wrap n)=k.wrap n:=by
 cases k<;>simp only[IntKind.wrap,IntKind.bits,IntKind.signed]<;>(repeat' split)<;>simp_all<;>omega
theorem acz(hi:Inv γ h0 io w0 s f w){op:BinOp}{T T':TypeId}{x x':Operand}{y y':KX}{c:C}(bY:qz P N (.binOp op T x x' T') (.bin op y y')=true)(he:gH s (.bin op y y')=some c) :
  ∃v,CR γ w c v/\∀w',(execOp (fr f N).eval ⟨dst,.binOp op T x x' T',ty,pos,aft,gd⟩).run P w'=.ok (.value v) w':=by
 simp only[qz,ab]at bY;obtain⟨⟨_,hx⟩,hj⟩:=bY;have hr:=bH hi hx;have yX:=bH hi hj;simp only[gH]at he;unfold M9 at he
 split at he
 ·rename_i k a k' b hb hn;rw[hb]at hr;rw[hn]at yX;obtain⟨oc,hxw⟩:=gT hr;obtain⟨rn,hjw⟩:=gT yX
  split at he
  ·rename_i hk;subst hk;simp only[ad]at he;obtain⟨d,hd,rfl⟩:=he;unfold Po at hd
   split at hd
   all_goals (try (simp only[aa]at hd;subst hd))
   ·exact⟨_,gj (wrap_wrap _ _),λw'=>by simp[execOp,oc,rn,binOp,Op.intArith,eqGuard]⟩
   ·exact⟨_,gj (wrap_wrap _ _),λw'=>by simp[execOp,oc,rn,binOp,Op.intArith,eqGuard]⟩
   ·exact⟨_,gj (wrap_wrap _ _),λw'=>by simp[execOp,oc,rn,binOp,Op.intArith,eqGuard]⟩
   ·exact⟨_,gJ,λw'=>IZ oc rn rfl⟩
   ·exact⟨_,gJ,λw'=>af2 oc rn rfl⟩
   ·exact⟨_,gJ,λw'=>af1 oc rn rfl⟩
   ·exact⟨_,gJ,λw'=>af0 oc rn rfl⟩
   ·exact⟨_,gJ,λw'=>afZ oc rn rfl⟩
   ·exact⟨_,gJ,λw'=>af3 oc rn (by simp)⟩
   ·split at hd
    ·rename_i hc;obtain⟨rfl,h1,h2⟩:=hc;simp only[aa]at hd;subst hd;have Ts:=wJ hxw;have hq:0<=a / b/\a / b<=a:=⟨Int.ediv_nonneg h1 (by omega),Int.ediv_le_self _ h1⟩
     have OS:¬b=0:=by omega
     have e:a.tdiv b=a / b:=Int.tdiv_eq_ediv_of_nonneg h1;have e2:IntKind.i64.wrap (a / b)=a / b:=bN (by omega);exact⟨_,gj e2,λw'=>by simp[execOp,oc,rn,binOp,Op.intDiv,eqGuard,OS,e,e2]⟩
    ·split at hd
     ·rename_i hc;obtain⟨rfl,h1,h2⟩:=hc;simp only[aa]at hd;subst hd;have Ts:=wJ hxw;have hq:0<=-a / b/\-a / b<=-a:=⟨Int.ediv_nonneg (by omega) (by omega),Int.ediv_le_self _ (by omega)⟩
      have OS:¬b=0:=by omega
      have e:a.tdiv b=-(-a / b):=by
       have:=Int.neg_tdiv (-a) b;rw[qH]at this;rw[this,Int.tdiv_eq_ediv_of_nonneg (by omega)]
      have e2:IntKind.i64.wrap (-(-a / b))=-(-a / b):=bN (by omega);exact⟨_,gj e2,λw'=>by simp[execOp,oc,rn,binOp,Op.intDiv,eqGuard,OS,e,e2]⟩
     ·cases hd
   ·split at hd
    ·rename_i hc;obtain⟨rfl,h1,h2⟩:=hc;simp only[aa]at hd;subst hd;have Ts:=wJ hxw;have hq:0<=a % b/\a % b < b:=⟨Int.emod_nonneg _ (by omega),Int.emod_lt_of_pos _ (by omega)⟩
     have hbj:=wJ hjw;have OS:¬b=0:=by omega
     have e:a.tmod b=a % b:=Int.tmod_eq_emod_of_nonneg h1;have e2:IntKind.i64.wrap (a % b)=a % b:=bN (by omega);exact⟨_,gj e2,λw'=>by simp[execOp,oc,rn,binOp,Op.intDiv,eqGuard,OS,e]⟩
    ·split at hd
     ·rename_i hc;obtain⟨rfl,h1,h2⟩:=hc;simp only[aa]at hd;subst hd;have hq:0<=-a % b/\-a % b < b:=⟨Int.emod_nonneg _ (by omega),Int.emod_lt_of_pos _ (by omega)⟩
      have hbj:=wJ hjw;have OS:¬b=0:=by omega
      have e:a.tmod b=-(-a % b):=by
       have:=Int.neg_tmod (-a) b;rw[qH]at this;rw[this,Int.tmod_eq_emod_of_nonneg (by omega)]
      have e2:IntKind.i64.wrap (-(-a % b))=-(-a % b):=bN (by omega);exact⟨_,gj e2,λw'=>by simp[execOp,oc,rn,binOp,Op.intDiv,eqGuard,OS,e]⟩
     ·cases hd
   ·cases hd
  ·cases he
 ·rename_i a b hb hn;rw[hb]at hr;rw[hn]at yX;obtain⟨oc,hxw⟩:=zQ hr;obtain⟨rn,hjw⟩:=zQ yX;simp only[ad]at he;obtain⟨d,hd,rfl⟩:=he;unfold Pp at hd
  split at hd
  ·split at hd
   ·rename_i hc;simp only[aa]at hd;subst hd;have OS:¬(((a.size+b.size:Nat):Int) > IntKind.i64.max):=by simp[IntKind.max,IntKind.signed,IntKind.bits];simp[maxLen]at hc;omega
    refine⟨_,xu (by simpa using hc),λw'=>?_⟩;simp only[execOp,oc,rn,binOp,Op.stringOp,eqGuard,if_neg OS];simp
   ·cases hd
  ·simp only[aa]at hd;subst hd;exact⟨_,gJ,λw'=>ZZ oc rn rfl⟩
  ·simp only[aa]at hd;subst hd;exact⟨_,gJ,λw'=>Z1 oc rn (by simp)⟩
  ·simp only[aa]at hd;subst hd;exact⟨_,gJ,λw'=>by simp[execOp,oc,rn,binOp,Op.stringOp,eqGuard,j5]⟩
  ·simp only[aa]at hd;subst hd;exact⟨_,gJ,λw'=>by simp[execOp,oc,rn,binOp,Op.stringOp,eqGuard,j5,mh]⟩
  ·simp only[aa]at hd;subst hd;exact⟨_,gJ,λw'=>by simp[execOp,oc,rn,binOp,Op.stringOp,eqGuard,j5,mh]⟩
  ·simp only[aa]at hd;subst hd;exact⟨_,gJ,λw'=>by simp[execOp,oc,rn,binOp,Op.stringOp,eqGuard,j5]⟩
  ·cases hd
 ·cases he
theorem acy(hi:Inv γ h0 io w0 s f w){op:BinOp}{T T':TypeId}{x x':Operand}{y y':KX}{c:C}(bY:qz P N (.binOp op T x x' T') (.uS op y y')=true)(he:gH s (.uS op y y')=some c) :
  ∃v,CR γ w c v/\∀w',(execOp (fr f N).eval ⟨dst,.binOp op T x x' T',ty,pos,aft,gd⟩).run P w'=.ok (.value v) w':=by
 simp only[qz,ab]at bY;obtain⟨⟨⟨_,hx⟩,hj⟩,jO⟩:=bY;have hr:=bH hi hx;have yX:=bH hi hj;unfold isBool at jO
 split at jO
 ·rename_i hT;simp only[gH]at he
  split at he
  ·rename_i a b hb hn;rw[hb]at hr;rw[hn]at yX;have oc:=ox hr;have rn:=ox yX;simp only[ad]at he;obtain⟨d,hd,rfl⟩:=he;unfold Pn at hd
   split at hd
   ·simp only[aa]at hd;subst hd;exact⟨_,gJ,λw'=>ZX hT oc rn rfl⟩
   ·simp only[aa]at hd;subst hd;exact⟨_,gJ,λw'=>ZY hT oc rn (by simp)⟩
   ·cases hd
  ·cases he
 ·cases jO
theorem CM{w:World}:∀(es:List (List D)) {xs:List Value} {G:Fp} {ns:List Int},eD w es xs G->bytesOf es=some ns->xs=ns.map (Value.int .u8)/\ns.length=es.length
 |[],xs,G,ns,h,hb=>by
  simp only[eD]at h;simp only[bytesOf,aa]at hb;subst hb;simp[h.1]
 |e::es,xs,G,ns,h,hb=>by
  simp only[eD]at h;obtain⟨v1,v2,F1,F2,rfl,rfl,h1,h2⟩:=h;unfold bytesOf at hb
  split at hb
  ·rename_i e0;cases e0
  ·rename_i n iY heq;simp only[bq]at heq;obtain⟨rfl,rfl⟩:=heq;simp only[ad]at hb;obtain⟨ms,hm,rfl⟩:=hb;obtain⟨k1,k2⟩:=CM es h2 hm;simp only[ee,Rp]at h1;obtain⟨v,eb,G1,G2,rfl,_,⟨rfl,_⟩,rfl,_⟩:=h1;simp[k1,k2]
  ·cases hb
theorem acA(hi:Inv γ h0 io w0 s f w){T T':TypeId}{x:Operand}{y:KX}{c:C}(bY:qz P N (.convert T T' x) (.yq y)=true)(he:gH s (.yq y)=some c) :
  ∃v,CR γ w c v/\∀w',om γ s w w'->(execOp (fr f N).eval ⟨dst,.convert T T' x,ty,pos,aft,gd⟩).run P w'=.ok (.value v) w':=by
 simp only[qz,ab]at bY;obtain⟨⟨hx,hT'⟩,hT⟩:=bY;have hr:=bH hi hx;simp only[gH]at he
 split at he
 ·rename_i r hb;rw[hb]at hr;simp only[CR]at hr
  split at he
  ·rename_i row hl
   split at he
   ·rename_i hc;simp only[ad]at he;obtain⟨ns,hns,rfl⟩:=he;obtain⟨F,hR,_,qP⟩:=hi.rw r row hl;obtain⟨A,n,cc,q1,q2,q3,q4,q5,q6,q7,q8⟩:=hR;rcases q8 with ⟨a1,hc0,_⟩|⟨g,o,xs,G,a1,a2,a3,a4,a5,a6,a7,a8,a9,sI⟩
    ·have vQ:row.es=[]:=cn.1 (by omega);rw[vQ]at hns;simp only[bytesOf,aa]at hns;subst hns;subst a1;refine⟨.string ByteArray.empty,xu (qL _),λw' hs=>?_⟩;unfold isStr at hT'
     split at hT'
     ·rename_i X7;unfold Yg at hT
      split at hT
      ·rename_i E hu
       split at hT
       ·rename_i hE;have h:=run_convert_bytes_nil (P:=P) w' T E hu hE n cc T' X7;have hv:=hr.1.trans q1;simp only[execOp,hv,h,Sem.run_bind,Result.andThen_ok];rfl
       ·cases hT
      ·cases hT
     ·cases hT'
    ·have hg:g∈F:=by
      cases hd:row.deep with
      |true=>rw[(a9 hd).1];simp
      |false=>rw[(sI hd).1];simp
     obtain⟨k1,k2⟩:=CM _ a4 hns;subst a1;refine⟨_,xu ?_,λw' hs=>?_⟩
     ·show (strOfNums ns).size<=maxLen;rw[strOfNums_size];omega
     ·have rq:gz w' g o xs:=a5.cG (hs.rw r row hl g (qP g hg));unfold isStr at hT'
      split at hT'
      ·rename_i X7;unfold Yg at hT
       split at hT
       ·rename_i E hu
        split at hT
        ·rename_i hE;have h:=run_convert_bytes_arg (P:=P) w' T E hu hE g o n cc ns (by omega) (λi oX=>by
          have Tt:i < ns.length:=by omega
          have:=rq i (.int .u8 ns[i]) (by rw[k1];simp[Tt]);rw[this];simp[Tt]) T' X7
         have hv:=hr.1.trans q1;simp only[execOp,hv,h,Sem.run_bind,Result.andThen_ok];rfl
        ·cases hT
       ·cases hT
      ·cases hT'
   ·cases he
  ·cases he
 ·cases he
theorem acE(hi:Inv γ h0 io w0 s f w){T:TypeId}{x ix:Operand}{y j:KX}{c:C}(bY:qz P N (.slice T x none (some ix) none) (.slc y j)=true)(he:gH s (.slc y j)=some c) :
  ∃v,CR γ w c v/\∀w',(execOp (fr f N).eval ⟨dst,.slice T x none (some ix) none,ty,pos,aft,gd⟩).run P w'=.ok (.value v) w':=by
 simp only[qz,ab]at bY;obtain⟨⟨⟨hx,hj⟩,_⟩,hz⟩:=bY;have hr:=bH hi hx;have yX:=bH hi hj;obtain⟨z,hz⟩:=bF.1 hz;unfold FX at hz
 split at hz
 ·rename_i E hu;simp only[gH]at he
  split at he
  ·rename_i k fl es a hb hn;rw[hb]at hr;rw[hn]at yX;obtain⟨rn,_⟩:=gT yX
   split at he
   ·rename_i hc;simp only[aa]at he;subst he;simp only[CR,Rp]at hr;obtain⟨F,⟨A,n,cc,q1,q2,q3,q4,q5,q6,q7,q8⟩,jV⟩:=hr;have ic:(es.take a.toNat).length=a.toNat:=by rw[aY];omega
    refine⟨.slice A a.toNat cc,?_,λw'=>K6 hu (λw=>run_sizeOf hz w) q1 rn (by omega) (by omega)⟩;by_cases h0:a.toNat=0
    ·simp only[CR,Rp];exact⟨[],⟨A,a.toNat,cc,rfl,ic.symm,by omega,q4,λhf e he=>q5 hf e (bM he),q6,λe he=>q7 e (bM he),.inl ⟨h0,rfl⟩⟩,λ_ h=>by simp at h⟩
    ·rcases q8 with q8|⟨hp,b,o,xs,G,p1,p2,p3,p4⟩
     ·omega
     ·rw[<- a_ a.toNat es]at p3;obtain⟨v1,v2,F1,F2,rfl,rfl,k1,k2⟩:=eD.fv _ p3;have Ja:=eD.length _ k1 (λe he=>q7 e (bM he));rw[ic]at Ja;simp only[CR,Rp];refine⟨(b,o+a.toNat * k)::F1,⟨A,a.toNat,cc,rfl,ic.symm,by omega,q4,λhf e he=>q5 hf e (bM he),q6,λe he=>q7 e (bM he),.inr ⟨by omega,b,o,v1,F1,p1,rfl,k1,?_⟩⟩,?_⟩
      ·intro j u hu;exact p4 j u (by rw[cl (aI.1 hu).1];exact hu)
      ·intro be n5;rcases ay.1 n5 with rfl|n5
       ·have:=jV (b,o+n * k) (by rw[p2];simp);refine az ?_ this;have:a.toNat * k<=n * k:=er k (by omega);show o+a.toNat * k<=o+n * k;omega
       ·exact jV be (by rw[p2];simp[n5])
   ·cases he
  ·cases he
 ·cases hz
theorem acF(hi:Inv γ h0 io w0 s f w){T:TypeId}{x:Operand}{lo oX:Option Operand}{y:KX}{a b:Option KX}{c:C}(bY:qz P N (.slice T x lo oX none) (.Ji y a b)=true)(he:gH s (.Ji y a b)=some c) :
  ∃v,CR γ w c v/\∀w',(execOp (fr f N).eval ⟨dst,.slice T x lo oX none,ty,pos,aft,gd⟩).run P w'=.ok (.value v) w':=by
 simp only[qz,ab]at bY;obtain⟨⟨⟨hx,hl⟩,hh⟩,jO⟩:=bY;have hr:=bH hi hx;unfold isStr at jO
 split at jO
 ·rename_i hu;simp only[gH]at he
  split at he
  ·rename_i t hb;rw[hb]at hr;obtain⟨oc,HO⟩:=zQ hr
   split at he
   ·rename_i l u rq X7
    split at he
    ·rename_i hc;simp only[aa]at he;subst he;refine⟨_,xu ?_,λw'=>S9 hu oc (mA hi hl rq) (mA hi hh X7) hc.1 hc.2⟩;rw[ByteArray.size_extract];omega
    ·cases he
   ·cases he
  ·cases he
 ·cases jO
theorem acD(hi:Inv γ h0 io w0 s f w){T:TypeId}{x:Operand}{lo oX:Option Operand}{y:KX}{a b:Option KX}{k:Nat}{c:C}(bY:qz P N (.slice T x lo oX none) (.yi k y a b)=true)(he:gH s (.yi k y a b)=some c) :
  ∃v,CR γ w c v/\∀w',(execOp (fr f N).eval ⟨dst,.slice T x lo oX none,ty,pos,aft,gd⟩).run P w'=.ok (.value v) w':=by
 simp only[qz,ab]at bY;obtain⟨⟨⟨hx,Jb⟩,Wf⟩,hz⟩:=bY;have hr:=bH hi hx;have hz:=eq_of_beq hz;unfold FX at hz
 split at hz
 ·rename_i E hu;simp only[gH]at he
  split at he
  ·rename_i k1 fl es hb;rw[hb]at hr
   split at he
   ·rename_i l u rq X7
    split at he
    ·rename_i hc;obtain⟨rfl,c1,c2⟩:=hc;simp only[aa]at he;subst he;simp only[CR,Rp]at hr;obtain⟨F,⟨A,n,cc,q1,q2,q3,q4,q5,q6,q7,q8⟩,jV⟩:=hr;have hlen:((es.take u).drop l).length=u - l:=by simp;omega
     have tq:∀e∈(es.take u).drop l,e∈es:=λe he=>bM (iz he);have hbu:I6 (fr f N).eval oX n u:=by rw[q2];exact mA hi Wf X7
     have lQ:=λw'=>B2 (w:=w') (dst:=dst) (ty:=ty) (pos:=pos) (aft:=aft) (gd:=gd) hu (λw=>run_sizeOf hz w) q1 (mA hi Jb rq) hbu c1 (by omega);refine⟨_,?_,lQ⟩;by_cases h0:u - l=0
     ·simp only[CR,Rp];exact⟨[],⟨_,u - l,cc - l,rfl,hlen.symm,by omega,by omega,λhf e he=>q5 hf e (tq e he),q6,λe he=>q7 e (tq e he),.inl ⟨h0,rfl⟩⟩,λ_ h=>by simp at h⟩
     ·rcases q8 with q8|⟨hp,b,o,xs,G,p1,p2,p3,p4⟩
      ·omega
      ·have rk:¬cc=l:=by omega
       rw[<- a_ u es]at p3;obtain⟨v1,v2,F1,F2,rfl,rfl,m0,_⟩:=eD.fv _ p3;rw[<- a_ l (es.take u)]at m0;obtain⟨u1,u2,G1,G2,rfl,rfl,m1,m2⟩:=eD.fv _ m0;have Ja:=eD.length _ m1 (λe he=>q7 e (bM (bM he)));have QO:((es.take u).take l).length=l:=by simp;omega
       rw[QO]at Ja;rw[if_neg rk,p1];simp only[CR,Rp];refine⟨(b,o+l * k1+(u - l) * k1)::G2,⟨some ⟨b,o+l * k1,none⟩,u - l,cc - l,by simp[Addr.add],hlen.symm,by omega,by omega,λhf e he=>q5 hf e (tq e he),q6,λe he=>q7 e (tq e he),.inr ⟨by omega,b,o+l * k1,u2,G2,rfl,rfl,m2,?_⟩⟩,?_⟩
       ·intro j v hj;have e1:((u1++u2)++v2)[u1.length+j]?=some v:=by
         rw[bh,cr (by omega),lK,cl (aI.1 hj).1];exact hj
        have e2:=p4 _ _ e1;rw[Ja,<- dv]at e2;exact e2
       ·intro be n5;rcases ay.1 n5 with rfl|n5
        ·have h9:=jV (b,o+n * k1) (by rw[p2];simp);refine az ?_ h9;have h8:l * k1+(u - l) * k1=u * k1:=by rw[<- uL];congr 1;omega
         have h7:u * k1<=n * k1:=er k1 (by omega);show o+l * k1+(u - l) * k1<=o+n * k1;omega
        ·exact jV be (by rw[p2];simp[n5])
    ·cases he
   ·cases he
  ·cases he
 ·cases hz
theorem lW(hi:Inv γ h0 io w0 s f w){op:Op}{nB:KO}{c:C}(bY:qz P N op nB=true)(he:gH s nB=some c) :
  ∃v,CR γ w c v/\∀w',(nB.J6=true->om γ s w w')->(execOp (fr f N).eval ⟨dst,op,ty,pos,aft,gd⟩).run P w'=.ok (.value v) w':=by
 have rX:=bY;unfold qz at bY
 split at bY
 ·simp only[gH,aa]at he;subst he;exact⟨_,bH hi bY,λw' _=>fN rfl⟩
 ·simp only[gH,aa]at he;subst he;exact⟨_,bH hi bY,λw' _=>hY rfl⟩
 ·simp only[ab]at bY;obtain⟨⟨h1,h2⟩,h3⟩:=bY;simp only[gH]at he
  split at he
  ·rename_i b hb;have hr:=bH hi h1;rw[hb]at hr;have hv:=ox hr;simp only[aa]at he;subst he;cases b
   ·exact⟨_,bH hi h3,λw' _=>I0 hv rfl⟩
   ·exact⟨_,bH hi h2,λw' _=>I1 hv rfl⟩
  ·cases he
 ·obtain⟨v,h1,h2⟩:=U7 (dst:=dst) (ty:=ty) (pos:=pos) (aft:=aft) (gd:=gd) hi rX he;exact⟨v,h1,λw' _=>h2 w'⟩
 ·obtain⟨v,h1,h2⟩:=YD (dst:=dst) (ty:=ty) (pos:=pos) (aft:=aft) (gd:=gd) hi rX he;exact⟨v,h1,λw' hs=>h2 w' (hs rfl)⟩
 ·obtain⟨v,h1,h2⟩:=ahc (dst:=dst) (ty:=ty) (pos:=pos) (aft:=aft) (gd:=gd) hi rX he;exact⟨v,h1,λw' _=>h2 w'⟩
 ·obtain⟨v,h1,h2⟩:=ahd (dst:=dst) (ty:=ty) (pos:=pos) (aft:=aft) (gd:=gd) hi rX he;exact⟨v,h1,λw' _=>h2 w'⟩
 ·obtain⟨v,h1,h2⟩:=acG (dst:=dst) (ty:=ty) (pos:=pos) (aft:=aft) (gd:=gd) hi rX he;exact⟨v,h1,λw' _=>h2 w'⟩
 ·obtain⟨v,h1,h2⟩:=acB (dst:=dst) (ty:=ty) (pos:=pos) (aft:=aft) (gd:=gd) hi rX he;exact⟨v,h1,λw' _=>h2 w'⟩
 ·obtain⟨v,h1,h2⟩:=acC (dst:=dst) (ty:=ty) (pos:=pos) (aft:=aft) (gd:=gd) hi rX he;exact⟨v,h1,λw' _=>h2 w'⟩
 ·simp only[ab]at bY;have e:=of_decide_eq_true bY.1.1;subst e;obtain⟨v,h1,h2⟩:=acz (dst:=dst) (ty:=ty) (pos:=pos) (aft:=aft) (gd:=gd) hi rX he;exact⟨v,h1,λw' _=>h2 w'⟩
 ·simp only[ab]at bY;have e:=of_decide_eq_true bY.1.1.1;subst e;obtain⟨v,h1,h2⟩:=acy (dst:=dst) (ty:=ty) (pos:=pos) (aft:=aft) (gd:=gd) hi rX he;exact⟨v,h1,λw' _=>h2 w'⟩
 ·simp only[gH]at he
  split at he
  ·rename_i b hb;have hr:=bH hi bY;rw[hb]at hr;have hv:=ox hr;simp only[aa]at he;subst he;exact⟨_,gJ,λw' _=>WZ hv⟩
  ·cases he
 ·simp only[gH]at he
  split at he
  ·rename_i k a hb;have hr:=bH hi bY;rw[hb]at hr;obtain⟨hv,_⟩:=gT hr;simp only[aa]at he;subst he;exact⟨_,gj (wrap_wrap _ _),λw' _=>by simp[execOp,hv,Op.unary,Op.intArith]⟩
  ·cases he
 ·simp only[ab,beq_iff_eq]at bY;obtain⟨⟨h1,h2⟩,h3⟩:=bY;simp only[gH]at he
  split at he
  ·rename_i k a hb;have hr:=bH hi h1;rw[hb]at hr;obtain⟨hv,_⟩:=gT hr;simp only[aa]at he;subst he;refine⟨_,gj (wrap_wrap _ _),λw' _=>?_⟩;unfold Uu at h2 h3
   split at h3
   ·rename_i k' gf;simp only[aa]at h3;subst h3
    split at h2
    ·rename_i k2 hk2;simp[execOp,convert,hv,run_underlying gf,run_underlying hk2,Conv.intToInt]
    ·cases h2
   ·cases h3
  ·cases he
 ·rename_i c0 y
  split at bY
  ·rename_i x T kl nR Cq;simp only[ab]at bY;obtain⟨h1,h2⟩:=bY;obtain⟨Tp,args,Jq⟩:=c0;simp only at kl nR Cq
   subst kl;have ea:args=#[x]:=by rw[<- nR]
   have et:Jq=#[T]:=by rw[<- Cq]
   subst ea et;have hr:=bH hi h1;unfold HQ at h2
   split at h2
   ·rename_i E hu;have wr:∀n:Nat,n<=maxLen->IntKind.i64.wrap (n:Int)=n:=λn hn=>bN (by simp[maxLen]at hn;omega);simp only[gH]at he
    split at he
    ·rename_i k fl es hb;rw[hb]at hr;simp only[CR,Rp]at hr;obtain⟨F,⟨A,m,cc,q1,q2,q3,q4,_⟩,jV⟩:=hr;simp only[aa]at he;subst he;subst q2;exact⟨_,gj (wr _ (by omega)),λw' _=>DZ hu q1⟩
    ·rename_i k fl hb;rw[hb]at hr;simp only[CR]at hr;simp only[aa]at he;subst he;exact⟨_,gj (wr 0 (by omega)),λw' _=>DZ hu hr.1⟩
    ·rename_i r hb;rw[hb]at hr;simp only[CR]at hr
     split at he
     ·rename_i row hl;simp only[aa]at he;subst he;obtain⟨F,hR,_,qP⟩:=hi.rw r row hl;obtain⟨A,n',c',q1,q2,q3,q4,_⟩:=hR;subst q2;exact⟨_,gj (wr _ (by omega)),λw' _=>DZ hu (hr.1.trans q1)⟩
     ·cases he
    ·cases he
   ·cases h2
  ·cases bY
 ·rename_i c0 y
  split at bY
  ·rename_i x T kl nR Cq;simp only[ab]at bY;obtain⟨h1,h2⟩:=bY;obtain⟨Tp,args,Jq⟩:=c0;simp only at kl nR Cq
   subst kl;have ea:args=#[x]:=by rw[<- nR]
   have et:Jq=#[T]:=by rw[<- Cq]
   subst ea et;have hr:=bH hi h1;unfold isStr at h2
   split at h2
   ·rename_i hu;simp only[gH]at he
    split at he
    ·rename_i t hb;rw[hb]at hr;obtain⟨hv,hl⟩:=zQ hr;simp only[aa]at he;subst he;exact⟨_,gj (bN (by simp[maxLen]at hl;omega)),λw' _=>Z0 hu hv⟩
    ·cases he
   ·cases h2
  ·cases bY
 ·rename_i c0 y y'
  split at bY
  ·rename_i x x' kl nR;simp only[ab]at bY;obtain⟨Tp,args,Jq⟩:=c0;simp only at kl nR
   subst kl;have ea:args=#[x,x']:=by rw[<- nR]
   subst ea;have hr:=bH hi bY.1;have yW:=bH hi bY.2;simp only[gH]at he
   split at he
   ·rename_i a b hb kU;rw[hb]at hr;rw[kU]at yW;obtain⟨hv,hw⟩:=gT hr;obtain⟨OV,hw'⟩:=gT yW;simp only[aa]at he;subst he;exact⟨_,gj (by split<;>assumption),λw' _=>by simp[execOp,resolve,invoke,builtin,Builtin.min_,Builtin.min2,hv,OV]⟩
   ·cases he
  ·cases bY
 ·rename_i c0 y y'
  split at bY
  ·rename_i x x' kl nR;simp only[ab]at bY;obtain⟨Tp,args,Jq⟩:=c0;simp only at kl nR
   subst kl;have ea:args=#[x,x']:=by rw[<- nR]
   subst ea;have hr:=bH hi bY.1;have yW:=bH hi bY.2;simp only[gH]at he
   split at he
   ·rename_i a b hb kU;rw[hb]at hr;rw[kU]at yW;obtain⟨hv,hw⟩:=gT hr;obtain⟨OV,hw'⟩:=gT yW;simp only[aa]at he;subst he;exact⟨_,gj (by split<;>assumption),λw' _=>by simp[execOp,resolve,invoke,builtin,Builtin.max_,Builtin.max2,hv,OV]⟩
   ·cases he
  ·cases bY
 ·simp only[ab,beq_iff_eq]at bY;obtain⟨h1,rfl⟩:=bY;have hr:=bH hi h1;simp only[gH]at he
  split at he
  ·rename_i cs hb;rw[hb]at hr;simp only[CR]at hr;obtain⟨vs,h2,h3⟩:=hr;rw[cV]at he;obtain⟨v,hv,hc⟩:=h3.at_ he;exact⟨v,hc,λw' _=>OK h2 (by simpa using hv)⟩
  ·cases he
 ·obtain⟨v,h1,h2⟩:=acE (dst:=dst) (ty:=ty) (pos:=pos) (aft:=aft) (gd:=gd) hi rX he;exact⟨v,h1,λw' _=>h2 w'⟩
 ·obtain⟨v,h1,h2⟩:=acF (dst:=dst) (ty:=ty) (pos:=pos) (aft:=aft) (gd:=gd) hi rX he;exact⟨v,h1,λw' _=>h2 w'⟩
 ·obtain⟨v,h1,h2⟩:=acD (dst:=dst) (ty:=ty) (pos:=pos) (aft:=aft) (gd:=gd) hi rX he;exact⟨v,h1,λw' _=>h2 w'⟩
 ·have hr:=bH hi bY;simp only[gH]at he
  split at he
  ·rename_i b o hb;simp only[aa]at he;subst he;rw[hb]at hr;refine⟨_,hr,λw' _=>?_⟩;simp only[CR]at hr;simp[execOp,hr]
  ·rename_i cs hb;simp only[aa]at he;subst he;rw[hb]at hr;refine⟨_,hr,λw' _=>?_⟩;simp only[CR]at hr;obtain⟨b,o,vs,F,hr,_⟩:=hr;simp[execOp,hr]
  ·rename_i r k i o hb;simp only[aa]at he;subst he;rw[hb]at hr;refine⟨_,hr,λw' _=>?_⟩;simp only[CR]at hr;obtain⟨g,p,n,c,_,hr⟩:=hr;simp[execOp,hr]
  ·cases he
 ·obtain⟨v,h1,h2⟩:=acA (dst:=dst) (ty:=ty) (pos:=pos) (aft:=aft) (gd:=gd) hi rX he;exact⟨v,h1,λw' hs=>h2 w' (hs rfl)⟩
 ·cases bY
end
end
section
open Go.RowKit
inductive FOk:Option Nat->Fm->Fm->Prop where
 |skip {f:Fm}:FOk none f f
 |put {d:Nat} {f:Fm} {v:Value}:FOk (some d) f (yo f d v)
structure Tr (d:Option Nat) (X:List Nat) (γ:Gh) (w:World) (γ':Gh) (w':World) (f f':Fm):Prop where
 M6:sG γ (λo=>∃i∈X,o=.box i\/o=.row i) w w'
 β:∀b,d≠some b->γ'.β b=γ.β b
 h:∀g,γ.h g<=γ'.h g
 fr:FOk d f f'
theorem sG.refl(γ:Gh)(M:Own->Prop)(w:World):sG γ M w w:=⟨rfl,rfl,rfl,aj _,λ_ _ _=>rfl,λ_ _ _=>rfl,λ_ h=>h⟩
section
variable {γ:Gh} {h0:Nat->Nat} {io:List Nat} {w0:World} {s:St} {f:Fm} {w:World}
theorem jS(hi:Inv γ h0 io w0 s f w){w1:World}(hk:D3 w.heap.size w w1)(M:Own->Prop):sG γ M w w1 where
 os:=hk.os
 tape:=hk.tape
 output:=hk.output
 size:=hk.size
 block g hg _:=hk.block g hg
 cell g j hj:=by
  rcases cY g w.heap.size with hl|hl
  ·exact World.cell?_of_block (w:=w) (hk.block g hl)
  ·have:=hi.eM g hl;omega
 eV g hg:=⟨bn hg.1 hk.size,λj=>by rw[World.frozen?_of_block (w:=w) (hk.block g hg.1)];exact hg.2 j⟩
theorem Inv.GP(hi:Inv γ h0 io w0 s f w){w1:World}(hk:D3 w.heap.size w w1):Inv γ h0 io w0 s f w1:=
 hi.M6 (jS hi hk (λ_=>False)) (λh=>h) (λ_ h=>h.elim) (λ_ h=>h.elim)
theorem Inv.qG(hi:Inv γ h0 io w0 s f w){g:Nat}(hg:w.heap.size<=g):γ.ω g=.free:=by
 rcases gq (γ.ω g=.free) with h|h
 ·exact h
 ·have:=(hi.own g h).1;omega
theorem Inv.Jo(hi:Inv γ h0 io w0 s f w){b g:Nat}{T:TypeId}{vs:List Value}{cs:List C}(hB:kX w g T vs)(HG:γ.ω g=.free\/γ.ω g=.dd)(hg:w0.heap.size<=g\/g∈io)(hh:γ.h g=0)(hc:dS γ w cs vs) :
  ∃γ',Inv γ' h0 io w0 (s.jK b (C.jd b cs)) f w/\γ'.β b=g/\(∀x,x≠b->γ'.β x=γ.β x)/\γ'.h=γ.h/\γ'.sl=γ.sl/\∀y,y≠g->γ'.ω y=γ.ω y:=by
 refine⟨{γ with β:=λx=>if x=b then g else γ.β x,ω:=λx=>if x=g then .box b else γ.ω x },?_,by simp,λx hx=>by simp[hx],rfl,rfl,λy hy=>by simp[hy]⟩;have mv:∀(c:C) {v:Value},CR γ w c v->CR {γ with β:=λx=>if x=b then g else γ.β x,ω:=λx=>if x=g then .box b else γ.ω x } w (C.kill b c) v:=λc v h=>
  by refine CR.move (γ:=γ) b ?_ ?_ ?_ ?_ c h<;>intros<;>first|exact aj _|rfl|simp_all
 have mvs:∀(c:List C) {v:List Value},dS γ w c v->dS {γ with β:=λx=>if x=b then g else γ.β x,ω:=λx=>if x=g then .box b else γ.ω x } w (C.jd b c) v:=λc v h=>
  by refine dS.move (γ:=γ) b ?_ ?_ ?_ ?_ c h<;>intros<;>first|exact aj _|rfl|simp_all
 exact {
  sl:=λd c hl=>by
   simp[St.jK,St.eN,St.kill,ui]at hl;obtain⟨c0,h1,rfl⟩:=hl;exact mv c0 (hi.sl d c0 h1)
  bx:=λd c hl=>by
   simp[St.jK,St.eN,St.kill,look,dM,uh]at hl;by_cases hd:b=d
   ·subst hd;simp[if_true,aa]at hl;subst hl;exact⟨T,vs,by simpa using hB,mvs cs hc,by simp⟩
   ·simp[if_neg hd]at hl;obtain⟨c0,h1,rfl⟩:=hl;obtain⟨T',eb,h2,h3,h4⟩:=hi.bx d c0 h1;have iO:γ.β d≠g:=λe=>by rcases HG with h|h<;>rw[e,h]at h4<;>cases h4
    exact⟨T',eb,by simpa [kF hd] using h2,mvs c0 h3,by simp[kF hd,iO,h4]⟩
  rw:=λr x hl=>by
   obtain⟨F,h1,h2,h3⟩:=hi.rw r x hl;refine⟨F,h1,h2,λy hy=>?_⟩;have iO:y≠g:=λe=>by have:=h3 y hy;rcases HG with h|h<;>rw[e,h]at this<;>cases this
   simp[iO,h3 y hy]
  own:=λy hy=>by
   by_cases he:y=g
   ·subst he;exact⟨hB.lt,hg⟩
   ·simp[if_neg he]at hy;exact hi.own y hy
  lJ:=λy x hy=>by
   by_cases he:y=g
   ·subst he;exact hh
   ·simp[if_neg he]at hy;exact hi.lJ y x hy
  eM:=hi.eM,os:=hi.os,tape:=hi.tape,output:=hi.output,size:=hi.size,frame:=hi.frame,cell:=hi.cell,mono:=hi.mono,hold:=hi.hold,eV:=hi.eV }
theorem Inv.rD(hi:Inv γ h0 io w0 s f w){r:Nat}{x:Row}{v:Value}{F:List Nat}(hR:ni γ.h w x v F)(jk:F.Nodup)(hF:∀g∈F,(γ.ω g=.free\/γ.ω g=.dd\/γ.ω g=.row r)/\g < w.heap.size/\(w0.heap.size<=g\/g∈io)) :
  ∃γ',Inv γ' h0 io w0 (s.newRow r x) f w/\γ'.sl r=v/\γ'.β=γ.β/\γ'.h=γ.h/\(∀g,g∉F->γ'.ω g=γ.ω g)/\∀q,q≠r->γ'.sl q=γ.sl q:=by
 refine⟨{γ with sl:=λq=>if q=r then v else γ.sl q,ω:=λy=>if y∈F then .row r else γ.ω y },?_,by simp,rfl,rfl,λg hg=>by simp[hg],λq hq=>by simp[hq]⟩;have mv:∀(c:C) {v':Value},CR γ w c v'->CR {γ with sl:=λq=>if q=r then v else γ.sl q,ω:=λy=>if y∈F then .row r else γ.ω y } w (C.kill r c) v':=λc v' h=>
  by refine CR.move (γ:=γ) r ?_ ?_ ?_ ?_ c h<;>intros<;>first|exact aj _|rfl|simp_all
 have mvs:∀(c:List C) {v':List Value},dS γ w c v'->dS {γ with sl:=λq=>if q=r then v else γ.sl q,ω:=λy=>if y∈F then .row r else γ.ω y } w (C.jd r c) v':=λc v' h=>
  by refine dS.move (γ:=γ) r ?_ ?_ ?_ ?_ c h<;>intros<;>first|exact aj _|rfl|simp_all
 exact {
  sl:=λd c hl=>by
   simp[St.newRow,St.setRow,St.kill,ui]at hl;obtain⟨c0,h1,rfl⟩:=hl;exact mv c0 (hi.sl d c0 h1)
  bx:=λd c hl=>by
   simp[St.newRow,St.setRow,St.kill,uh]at hl;obtain⟨c0,h1,rfl⟩:=hl;obtain⟨T',eb,h2,h3,h4⟩:=hi.bx d c0 h1;refine⟨T',eb,h2,mvs c0 h3,?_⟩;have iO:γ.β d∉F:=λe=>by
    grind
   simp[iO,h4]
  rw:=λq y hl=>by
   simp[St.newRow,St.setRow,St.kill,look,dM]at hl;by_cases hd:r=q
   ·subst hd;simp[if_true,aa]at hl;subst hl;exact⟨F,by simpa using hR,jk,λg hg=>by simp[hg]⟩
   ·simp[if_neg hd]at hl;obtain⟨F',h1,h2,h3⟩:=hi.rw q y hl;refine⟨F',by simpa [kF hd] using h1,h2,λg hg=>?_⟩;have iO:g∉F:=λe=>by
     grind
    simp[iO,h3 g hg]
  own:=λy hy=>by
   by_cases he:y∈F
   ·exact (hF y he).2
   ·simp[if_neg he]at hy;exact hi.own y hy
  lJ:=λy x hy=>by
   by_cases he:y∈F
   ·simp_all
   ·simp[if_neg he]at hy;exact hi.lJ y x hy
  eM:=hi.eM,os:=hi.os,tape:=hi.tape,output:=hi.output,size:=hi.size,frame:=hi.frame,cell:=hi.cell,mono:=hi.mono,hold:=hi.hold,eV:=hi.eV }
theorem Inv.setRow(hi:Inv γ h0 io w0 s f w){r:Nat}{x:Row}{F:List Nat}(hR:ni γ.h w x (γ.sl r) F)(jk:F.Nodup)(hF:∀g∈F,(γ.ω g=.free\/γ.ω g=.dd\/γ.ω g=.row r)/\g < w.heap.size/\(w0.heap.size<=g\/g∈io)) :
  ∃γ',Inv γ' h0 io w0 (s.setRow r x) f w/\γ'.sl=γ.sl/\γ'.β=γ.β/\γ'.h=γ.h/\∀g,γ'.ω g=γ.ω g\/γ'.ω g=.row r:=by
 refine⟨{γ with ω:=λy=>if y∈F then .row r else γ.ω y },?_,rfl,rfl,rfl,λg=>by dsimp only;split<;>simp⟩;have mv:∀(c:C) {v':Value},CR γ w c v'->CR {γ with ω:=λy=>if y∈F then .row r else γ.ω y } w c v':=λc v' h=>
  by refine CR.mono (γ:=γ) ?_ ?_ ?_ ?_ c h<;>intros<;>first|exact aj _|rfl
 have mvs:∀(c:List C) {v':List Value},dS γ w c v'->dS {γ with ω:=λy=>if y∈F then .row r else γ.ω y } w c v':=λc v' h=>
  by refine dS.mono (γ:=γ) ?_ ?_ ?_ ?_ c h<;>intros<;>first|exact aj _|rfl
 exact {
  sl:=λd c hl=>mv c (hi.sl d c hl)
  bx:=λd c hl=>by
   obtain⟨T',eb,h2,h3,h4⟩:=hi.bx d c hl;refine⟨T',eb,h2,mvs c h3,?_⟩;have iO:γ.β d∉F:=λe=>by
    grind
   simp[iO,h4]
  rw:=λq y hl=>by
   simp[St.setRow,look,dM]at hl;by_cases hd:r=q
   ·subst hd;simp[if_true,aa]at hl;subst hl;exact⟨F,hR,jk,λg hg=>by simp[hg]⟩
   ·simp[if_neg hd]at hl;obtain⟨F',h1,h2,h3⟩:=hi.rw q y hl;refine⟨F',h1,h2,λg hg=>?_⟩;have iO:g∉F:=λe=>by
     grind
    simp[iO,h3 g hg]
  own:=λy hy=>by
   by_cases he:y∈F
   ·exact (hF y he).2
   ·simp[if_neg he]at hy;exact hi.own y hy
  lJ:=λy x hy=>by
   by_cases he:y∈F
   ·simp_all
   ·simp[if_neg he]at hy;exact hi.lJ y x hy
  eM:=hi.eM,os:=hi.os,tape:=hi.tape,output:=hi.output,size:=hi.size,frame:=hi.frame,cell:=hi.cell,mono:=hi.mono,hold:=hi.hold,eV:=hi.eV }
theorem Inv.eN(hi:Inv γ h0 io w0 s f w){b:Nat}{T:TypeId}{vs:List Value}{cs:List C}(hB:kX w (γ.β b) T vs)(qP:γ.ω (γ.β b)=.box b)(hc:dS γ w cs vs):Inv γ h0 io w0 (s.eN b cs) f w:=
 {hi with
  bx:=λd c hl=>by
   simp[St.eN,look,dM]at hl;by_cases hd:b=d
   ·subst hd;simp[if_true,aa]at hl;subst hl;exact⟨T,vs,hB,hc,qP⟩
   ·simp[if_neg hd]at hl;exact hi.bx d c hl }
theorem Inv.cM(hi:Inv γ h0 io w0 s f w)(r:Nat):Inv γ h0 io w0 (s.cM r) f w:=
 hi.sub (λ_ _ h=>h) (λ_ _ h=>h) (λd c h=>by
  simp[St.cM,dM]at h
  simp_all)
theorem Inv.take(hi:Inv γ h0 io w0 s f w){r:Nat}{x:Row}(hl:look s.rw r=some x) :
  ∃γ' G,Inv γ' h0 io w0 (s.cM r) f w/\γ'.β=γ.β/\γ'.sl=γ.sl/\(∀g,γ.h g<=γ'.h g)/\Rp w (.list x.k x.fl x.es) (γ.sl r) G/\
   ((x.deep && !x.fz)=false->dm γ'.h G)/\((x.deep && !x.fz)=true->(G.map bG).Nodup/\∀be∈G,γ'.ω be.1=.dd/\γ'.h be.1=0/\mM w be.1)/\
   (∀be∈G,γ.ω be.1=.row r\/x.deep=false)/\(∀g,γ.ω g≠.row r->γ'.ω g=γ.ω g/\γ'.h g=γ.h g)/\∀g,γ'.ω g=γ.ω g\/γ'.ω g=.dd\/γ'.ω g=.free:=by
 obtain⟨F,hR,jk,qP⟩:=hi.rw r x hl;obtain⟨A,n,c,q1,q2,q3,q4,q5,q6,q7,q8⟩:=hR;have hdr:=hi.cM r;have Bn:∀g,γ.ω g=.row r->(∀b cs,look (s.cM r).bx b=some cs->γ.ω g≠.box b)/\∀q y,look (s.cM r).rw q=some y->γ.ω g≠.row q:=by
  intro g hg;refine⟨λb cs _=>by rw[hg];simp,λq y hq=>?_⟩;rw[hg];simp only[St.cM,dM]at hq
  split at hq
  ·cases hq
  ·rename_i iO;intro e;cases e;exact iO rfl
 rcases q8 with ⟨rfl,rfl,rfl⟩|⟨g,o,xs,G,rfl,a2,a3,a4,a5,a6,a7,a8,a9,sI⟩
 ·refine⟨γ,[],hdr,rfl,rfl,λ_=>aj _,?_,λ_ _ h=>by simp at h,λ_=>by simp,λ_ h=>by simp at h,λ_ _=>⟨rfl,rfl⟩,λ_=>.inl rfl⟩;simp only[Rp];exact⟨none,n,0,q1,q2,q3,q4,q7,q5,q6,.inl ⟨by omega,trivial⟩⟩
 ·by_cases hn:n=0
  ·refine⟨γ,[],hdr,rfl,rfl,λ_=>aj _,?_,λ_ _ h=>by simp at h,λ_=>by simp,λ_ h=>by simp at h,λ_ _=>⟨rfl,rfl⟩,λ_=>.inl rfl⟩;simp only[Rp];exact⟨_,n,c,q1,q2,q3,q4,q7,q5,q6,.inl ⟨hn,trivial⟩⟩
  ·have uK:Rp w (.list x.k x.fl x.es) (γ.sl r) ((g,o+n * x.k)::G):=by
    simp only[Rp];exact⟨_,n,c,q1,q2,q3,q4,q7,q5,q6,.inr ⟨by omega,g,o,xs,G,rfl,rfl,a4,a5⟩⟩
   have Cr:γ.ω g=.row r:=by
    cases hd:x.deep with
    |true=>exact qP g (by rw[(a9 hd).1];simp)
    |false=>exact qP g (by rw[(sI hd).1];simp)
   by_cases Nv:(x.deep && !x.fz)=true
   ·simp only[ab,ck]at Nv;obtain⟨hF,hz⟩:=a9 Nv.1;have hs:=hdr.settle (h':=γ.h) (ω':=λy=>if γ.ω y=.row r then .dd else γ.ω y) (λ_=>aj _) (λg hg=>absurd rfl hg)
     (λy=>by
      by_cases hy:γ.ω y=.row r
      ·exact .inr ⟨.inr (by simp[hy]),by rw[hy];simp,Bn y hy⟩
      ·exact .inl (by simp[hy]))
     (λy b hy=>by
      by_cases NH:γ.ω y=.row r
      ·simp[NH]at hy
      ·simp only[if_neg NH]at hy;exact hi.lJ y b hy)
    refine⟨_,(g,o+n * x.k)::G,hs,rfl,rfl,λ_=>aj _,uK,λh=>by simp[Nv.1,Nv.2]at h,λ_=>⟨by rw[aN,<- hF];exact jk,λbe hb=>?_⟩,λbe hb=>.inl ?_,λy hy=>by simp[hy],λy=>by dsimp only;split<;>simp⟩
    ·rcases ay.1 hb with rfl|hb
     ·exact⟨by simp[Cr],a7 Nv.2,a3⟩
     ·have hm:γ.ω be.1=.row r:=qP _ (by rw[hF];simp;exact .inr ⟨be.2,hb⟩);exact⟨by simp[hm],hz be hb⟩
    ·rcases ay.1 hb with rfl|hb
     ·exact Cr
     ·exact qP _ (by rw[hF];simp;exact .inr ⟨be.2,hb⟩)
   ·
    have abi:∀be∈G,x.deep=true->γ.ω be.1=.row r:=λbe hb hd=>qP _ (by rw[(a9 hd).1];simp;exact .inr ⟨be.2,hb⟩);have eM:∃h':Nat->Nat,(∀y,γ.h y<=h' y)/\dm h' ((g,o+n * x.k)::G)/\∀y,γ.ω y≠.row r->h' y=γ.h y:=by
     refine⟨λy=>if γ.ω y=.row r then γ.h y+((((g,o+n * x.k)::G).map pn).foldl max 0) else γ.h y,λy=>by dsimp only;split<;>omega,?_,λy hy=>by simp[hy]⟩;have mx:∀(l:List Nat) (a b:Nat),(b=a\/b∈l)->b<=l.foldl max a:=by
      intro l
      induction l with
      |nil=>intro a b hb;simp at hb;simp[hb]
      |cons z l ih=>
       intro a b hb;simp only[tm];have h1:=ih (max a z) (max a z) (.inl rfl);rcases hb with rfl|hb
       ·omega
       ·rcases ay.1 hb with rfl|hb
        ·omega
        ·exact ih _ _ (.inr hb)
     intro be hb;have hle:=mx (((g,o+n * x.k)::G).map pn) 0 be.2 (.inr (cR hb));by_cases hy:γ.ω be.1=.row r
     ·simp only[hy,if_true];omega
     ·simp only[if_neg hy];rcases ay.1 hb with rfl|hb
      ·exact absurd Cr hy
      ·cases hd:x.deep with
       |true=>exact absurd (abi be hb hd) hy
       |false=>exact (sI hd).2 be hb
    obtain⟨h',m1,m2,m3⟩:=eM;have hs:=hdr.settle (h':=h') (ω':=λy=>if γ.ω y=.row r then .free else γ.ω y) m1
     (λy hy=>by
      have hr:γ.ω y=.row r:=by
       rcases gq (γ.ω y=.row r) with h|h
       ·exact h
       ·exact absurd (m3 y h) hy
      have ho:=hi.own y (by rw[hr];simp);exact⟨ho.1,ho.2,Bn y hr⟩)
     (λy=>by
      by_cases hy:γ.ω y=.row r
      ·exact .inr ⟨.inl (by simp[hy]),by rw[hy];simp,Bn y hy⟩
      ·exact .inl (by simp[hy]))
     (λy b hy=>by
      by_cases NH:γ.ω y=.row r
      ·simp[NH]at hy
      ·simp only[if_neg NH]at hy;rw[m3 y NH];exact hi.lJ y b hy)
    refine⟨_,_,hs,rfl,rfl,m1,uK,λ_=>m2,λh=>absurd h Nv,λbe hb=>?_,λy hy=>by simp[hy,m3 y hy],λy=>by dsimp only;split<;>simp⟩;cases hd:x.deep with
    |false=>exact .inr rfl
    |true=>
     rcases ay.1 hb with rfl|hb
     ·exact .inl Cr
     ·exact .inl (abi be hb hd)
end
theorem D3.next'{a w w':World}(h:D3 a.heap.size a w)(hk:D3 w.heap.size w w'):D3 a.heap.size a w':=Pl h hk h.size
section
variable {P:Program} {w:World}
theorem FT {t ty e : TypeId} {i : TypeInfo} {z : Value} {k by_ : Nat} (ht : P.underlying t = some (.slice e)) (hi : P.info? e = some i) (hz : i.zero = some z) (abA : i.size = k) (XJ : i.bytes = by_) (Ya : z.cells.size = k) (hk : 0 < k)
    {v : Value} {n : Nat} {xs : List Value} (hx : xs.length = n * k) (hv : (v = .slice none 0 0 /\ n = 0) \/ ∃ g cap T cur, v = .slice (some ⟨g, 0, none⟩) n cap /\ kX w g T cur /\ n <= cap /\ cap <= maxLen /\ cur.length = cap * k /\ cur.take (n * k) = xs)
    {u : Value} {m : Nat} {news : List Value} (hl : news.length = m * k) (hu : (m = 0 /\ ∃ A c, u = .slice A 0 c) \/ ∃ b o c, u = .slice (some ⟨b, o, none⟩) m c /\ gz w b o news) (h1 : ∀ y ∈ news, one y = true) (h63 : n + m <= maxLen) (XK : (n + m) * by_ <= room) :
    ∃ v' w', (Builtin.append_ #[t, t] ty #[v, u]).run P w = .ok v' w' /\
      ((m = 0 /\ v' = v /\ w' = w) \/
       (∃ g cap T cur, v = .slice (some ⟨g, 0, none⟩) n cap /\ kX w g T cur /\ v' = .slice (some ⟨g, 0, none⟩) (n + m) cap /\ n + m <= cap /\ cap <= maxLen /\ cur.length = cap * k /\ cur.take (n * k) = xs /\ w' = gk w g (.cells (cZ cur (n * k) news).toArray T (0, 0))) \/
       (∃ cap cs, v' = .slice (some ⟨w.heap.size, 0, none⟩) (n + m) cap /\ n + m <= cap /\ cap <= maxLen /\ w'.heap.size = w.heap.size + 1 /\ D3 w.heap.size w w' /\ kX w' w.heap.size e cs /\ cs.length = cap * k /\ cs.take ((n + m) * k) = xs ++ news)) := by
  subst abA
  subst XJ
  have agL : n + m <= 9223372036854775807 := by simp only [maxLen] at h63; omega
  have Wm : (n + m) * i.bytes <= 140737488355328 := XK
  have hlen : (xs ++ news).length = (n + m) * i.size := by rw [aO, hx, hl, uL]
  by_cases hm : m = 0
  · subst hm
    have hn : news = [] := bT (by simpa using hl)
    subst hn
    refine ⟨v, w, ?_, .inl ⟨rfl, rfl, rfl⟩⟩
    rcases hv with ⟨rfl, rfl⟩ | ⟨g, cap, T, cur, rfl, hB, Jc, Ua, Dd, Wq⟩
    · rcases hu with ⟨_, A, c, rfl⟩ | ⟨b, o, c, rfl, _⟩
      · cases A <;> simp [Builtin.append_, run_underlying ht, sizeOf, typeInfo, hi, Builtin.lenOf, Builtin.firstCells, loadCells, loadCellsFrom]
      · simp [Builtin.append_, run_underlying ht, sizeOf, typeInfo, hi, Builtin.lenOf, Builtin.firstCells, loadCells, loadCellsFrom]
    · rcases hu with ⟨_, A, c, rfl⟩ | ⟨b, o, c, rfl, _⟩
      · cases A <;> simp [Builtin.append_, run_underlying ht, sizeOf, typeInfo, hi, Builtin.lenOf, Builtin.firstCells, loadCells, loadCellsFrom, Jc, storeCells]
      · simp [Builtin.append_, run_underlying ht, sizeOf, typeInfo, hi, Builtin.lenOf, Builtin.firstCells, loadCells, loadCellsFrom, Jc, storeCells]
  · rcases hu with ⟨h, _⟩ | ⟨b, o, c, rfl, gF⟩
    · omega
    · have QQ : ∀ j y, news[j]? = some y -> w.cell? ((⟨b, o, none⟩ : Addr).add j) = some y := by
        intro j y hy
        rw [nH]
        exact gF j y hy
      have grown : ∀ (OX : Nat), OX < n + m ->
          (∃ cap cs, (Value.slice (some ⟨w.heap.size, 0, none⟩) (n + m) (grownCap w (n + m) OX e)) = .slice (some ⟨w.heap.size, 0, none⟩) (n + m) cap /\ n + m <= cap /\ cap <= maxLen /\ (w.drew.alloc (.cells (xs.toArray ++ news.toArray ++ Builtin.zeroCells z.cells (grownCap w (n + m) OX e - (n + m))) e)).heap.size = w.heap.size + 1 /\
            D3 w.heap.size w (w.drew.alloc (.cells (xs.toArray ++ news.toArray ++ Builtin.zeroCells z.cells (grownCap w (n + m) OX e - (n + m))) e)) /\ kX (w.drew.alloc (.cells (xs.toArray ++ news.toArray ++ Builtin.zeroCells z.cells (grownCap w (n + m) OX e - (n + m))) e)) w.heap.size e cs /\ cs.length = cap * i.size /\ cs.take ((n + m) * i.size) = xs ++ news) := by
        intro OX ho
        have yx := grownCap_ge w (n + m) OX e
        have Ua : grownCap w (n + m) OX e <= maxLen := grownCap_le_maxLen w (n + m) OX e h63
        refine ⟨_, (xs ++ news) ++ (Builtin.zeroCells z.cells (grownCap w (n + m) OX e - (n + m))).toList, rfl, yx, Ua, by rw [size_alloc]; rfl, ?_, ?_, ?_, ?_⟩
        · exact (Pm w).drew.next' (CG w.drew _ _)
        · have e1 : xs.toArray ++ news.toArray ++ Builtin.zeroCells z.cells (grownCap w (n + m) OX e - (n + m)) = ((xs ++ news) ++ (Builtin.zeroCells z.cells (grownCap w (n + m) OX e - (n + m))).toList).toArray := by
            apply Array.ext'
            simp
          rw [e1]
          exact kX.new w.drew e _
        · rw [aO, hlen, eI, size_zeroCells, Ya, <- uL]
          congr 1
          omega
        · rw [<- hlen]; exact l8
      rcases hv with ⟨rfl, rfl⟩ | ⟨g, cap, T, cur, rfl, hB, Jc, Ua, Dd, Wq⟩
      · have hx0 : xs = [] := bT (by simpa using hx)
        subst hx0
        have hr := run_append_nil (P := P) w t ty e i z ht hi hz ⟨b, o, none⟩ m c news hl QQ (by omega) (by omega) (by have hb := Wm; simp only [bo] at hb; omega)
        have hg := grown 0 (by omega)
        simp only [bo, ak, Array.empty_append] at hg ⊢
        exact ⟨_, _, hr, .inr (.inr hg)⟩
      · by_cases hrm : n + m <= cap
        · have wH : n * i.size + news.length <= cur.length := by rw [hl, Dd, <- uL]; exact er _ hrm
          have hf := run_firstCells_some (P := P) w i.size m ⟨b, o, none⟩ m c news hl QQ
          have Ct := lz (P := P) (o := n * i.size) news 0 w cur hB (by simpa using wH) h1
          simp only [eA] at Ct
          refine ⟨_, _, ?_, .inr (.inl ⟨g, cap, T, cur, rfl, hB, rfl, hrm, Ua, Dd, Wq, rfl⟩)⟩
          simp [Builtin.append_, run_underlying ht, sizeOf, typeInfo, hi, Builtin.lenOf, hrm, hf, Addr.add_lit, Ct]
        · have holds : ∀ j y, xs[j]? = some y -> w.cell? ((⟨g, 0, none⟩ : Addr).add j) = some y := by
            intro j y hy
            rw [nH, bo, hB.cell]
            rw [<- Wq, dt] at hy
            split at hy
            · exact hy
            · cases hy
          have hr := run_append_grow (P := P) w t ty e i z ht hi hz ⟨g, 0, none⟩ n cap xs hx holds ⟨b, o, none⟩ m c news hl QQ (by omega) (by omega) (growslice_fits (by omega) Wm)
          exact ⟨_, _, hr, .inr (.inr (grown cap (by omega)))⟩
end
end
section
open Go.RowKit
def B_(γ:Gh)(w:World)(g:Nat):Prop:=γ.ω g=.dd/\γ.h g=0/\mM w g
section
variable {h0:Nat->Nat} {io:List Nat} {w0:World} {f:Fm} {w:World}
theorem rQ:∀{cs:List C} {s s':St} {ds:List D} {dp:Bool},Ca s cs=some (ds,dp,s')->cs.all C.cell=true/\ds.length=cs.length
 |[],s,s',ds,dp,h=>by simp[Ca]at h;simp[<- h.1]
 |c::cs,s,s',ds,dp,h=>by
  unfold Ca at h;cases c with
  |d x=>
   simp only[ad]at h;obtain⟨⟨ga,Xk,s1⟩,h1,h2⟩:=h;simp[ao]at h2;have:=rQ h1;simp[C.cell,this.1,<- h2.1,this.2]
  |nil k fl=>
   simp only[ad]at h;obtain⟨⟨ga,Xk,s1⟩,h1,h2⟩:=h;simp[ao]at h2;have:=rQ h1;simp[C.cell,this.1,<- h2.1,this.2]
  |ref r=>
   simp only at h
   split at h
   ·simp only[ad]at h;obtain⟨⟨ga,Xk,s1⟩,h1,h2⟩:=h;simp[ao]at h2;have:=rQ h1;simp[C.cell,this.1,<- h2.1,this.2]
   ·cases h
  |_=>simp at h
structure Emb (γ:Gh) (w:World) (dp:Bool) (G:Fp) (γ':Gh):Prop where
 β:γ'.β=γ.β
 sl:γ'.sl=γ.sl
 h:∀g,γ.h g<=γ'.h g
 some_:∀be∈G,be.2<=γ'.h be.1\/B_ γ' w be.1
 deep:dp=true->(G.map bG).Nodup/\∀be∈G,B_ γ' w be.1/\γ.ω be.1≠.dd
 dd:∀g,γ.ω g=.dd->γ'.ω g=.dd/\γ'.h g=γ.h g
 own:∀g,γ'.ω g=γ.ω g\/γ'.ω g=.dd\/γ'.ω g=.free
theorem u0:∀(cs:List C) {γ:Gh} {s s':St} {vs:List Value} {ds:List D} {dp:Bool},Inv γ h0 io w0 s f w->dS γ w cs vs->Ca s cs=some (ds,dp,s')->
  ∃γ' G,Inv γ' h0 io w0 s' f w/\ee w ds vs G/\Emb γ w dp G γ'
 |[],γ,s,s',vs,ds,dp,hi,hc,he=>by
  simp[Ca]at he;obtain⟨rfl,rfl,rfl⟩:=he;simp only[dS]at hc;subst hc;exact⟨γ,[],hi,by simp[ee],⟨rfl,rfl,λ_=>aj _,λ_ h=>by simp at h,λ_=>by simp,λ_ h=>⟨h,rfl⟩,λ_=>.inl rfl⟩⟩
 |c::cs,γ,s,s',vs,ds,dp,hi,hc,he=>by
  simp only[dS]at hc;obtain⟨v,eb,rfl,hv,yz⟩:=hc;unfold Ca at he;cases c with
  |d x=>
   simp only[ad]at he;obtain⟨⟨ga,Xk,s1⟩,h1,h2⟩:=he;simp only[ao]at h2;obtain⟨rfl,rfl,rfl⟩:=h2;obtain⟨γ',G,i1,r1,e1⟩:=u0 cs hi yz h1;simp only[CR]at hv;obtain⟨F,hr,hs⟩:=hv;refine⟨γ',F++G,i1,by simp only[ee];exact⟨v,eb,F,G,rfl,rfl,hr,r1⟩,⟨e1.β,e1.sl,e1.h,λbe hb=>?_,λhd=>?_,e1.dd,e1.own⟩⟩
   ·rcases aL.1 hb with hb|hb
    ·exact .inl (az (hs be hb) (e1.h _))
    ·exact e1.some_ be hb
   ·simp only[ab]at hd;have hF:F=[]:=by
     have:ee w [x] [v] F:=by simp only[ee];exact⟨v,[],F,[],rfl,by simp,hr,rfl,rfl⟩
     exact this.plain (by simp[hd.1])
    subst hF;exact e1.deep hd.2
  |nil k fl=>
   simp only[ad]at he;obtain⟨⟨ga,Xk,s1⟩,h1,h2⟩:=he;simp only[ao]at h2;obtain⟨rfl,rfl,rfl⟩:=h2;obtain⟨γ',G,i1,r1,e1⟩:=u0 cs hi yz h1;simp only[CR]at hv;obtain⟨rfl,hk⟩:=hv;refine⟨γ',G,i1,?_,e1⟩;simp only[ee];refine⟨_,eb,[],G,rfl,rfl,?_,r1⟩;simp only[Rp];exact⟨none,0,0,rfl,rfl,aj _,by simp[maxLen],λ_=>ja,hk,λ_ h=>by simp at h,.inl ⟨rfl,trivial⟩⟩
  |ref r=>
   simp only at he
   split at he
   ·rename_i x hx;simp only[ad]at he;obtain⟨⟨ga,Xk,s1⟩,h1,h2⟩:=he;simp only[ao]at h2;obtain⟨rfl,rfl,rfl⟩:=h2;obtain⟨pf,G1,i1,b1,Vv,m1,r1,s1',d1,o1,k1,w1⟩:=hi.take hx;obtain⟨lN,G2,i2,r2,e2⟩:=u0 cs i1 (yz.mono (γ':=pf) m1 (λ_ _ _=>rfl) b1 Vv cs) h1;simp only[CR]at hv;have up:∀be∈G1,(x.deep && !x.fz)=true->B_ lN w be.1:=λbe hb hd=>by
     obtain⟨_,hl⟩:=d1 hd;obtain⟨l1,l2,l3⟩:=hl be hb;obtain⟨u1,u2⟩:=e2.dd _ l1;exact⟨u1,u2.trans l2,l3⟩
    refine⟨lN,G1++G2,i2,by simp only[ee];exact⟨v,eb,G1,G2,rfl,rfl,by rw[hv.1];exact r1,r2⟩,⟨e2.β.trans b1,e2.sl.trans Vv,λg=>az (m1 g) (e2.h g),λbe hb=>?_,λhd=>?_,λg hg=>?_,λg=>?_⟩⟩
    ·rcases aL.1 hb with hb|hb
     ·cases hd:(x.deep && !x.fz) with
      |true=>exact .inr (up be hb hd)
      |false=>exact .inl (az (s1' hd be hb) (e2.h _))
     ·exact e2.some_ be hb
    ·rw[ab]at hd;obtain⟨hd1,hd2⟩:=hd;obtain⟨n1,l1⟩:=d1 hd1;obtain⟨n2,l2⟩:=e2.deep hd2;have Aq:x.deep=true:=by simp at hd1;exact hd1.1
     refine⟨?_,λbe hb=>?_⟩
     ·rw[dc,bj];refine⟨n1,n2,?_⟩;intro a ha b hb e;subst e;obtain⟨TG,yv,rfl⟩:=bQ.1 ha;obtain⟨be2,Ap,e2'⟩:=bQ.1 hb;exact (l2 be2 Ap).2 (by rw[e2'];exact (l1 TG yv).1)
     ·rcases aL.1 hb with hb|hb
      ·refine⟨up be hb hd1,?_⟩;rcases o1 be hb with h|h
       ·rw[h];simp
       ·rw[Aq]at h;cases h
      ·refine⟨(l2 be hb).1,λh=>(l2 be hb).2 ?_⟩;rw[(k1 be.1 (by rw[h];simp)).1];exact h
    ·have h3:=k1 g (by rw[hg];simp);obtain⟨u1,u2⟩:=e2.dd g (by rw[h3.1];exact hg);exact⟨u1,u2.trans h3.2⟩
    ·rcases e2.own g with h|h
     ·rw[h];exact w1 g
     ·exact .inr h
   ·cases he
  |_=>simp at he
theorem Inv.Vr{γ:Gh}{s:St}(hi:Inv γ h0 io w0 s f w)(G:Fp)(hG:∀be∈G,be.2<=γ.h be.1\/B_ γ w be.1) :
  ∃γ',Inv γ' h0 io w0 s f w/\γ'.β=γ.β/\γ'.sl=γ.sl/\(∀g,γ.h g<=γ'.h g)/\dm γ'.h G/\(∀g,γ.ω g=.free->γ'.ω g=.free)/\∀g,γ.ω g≠.dd->γ'.h g=γ.h g:=by
 have mx:∀(l:List Nat) (a b:Nat),(b=a\/b∈l)->b<=l.foldl max a:=by
  intro l
  induction l with
  |nil=>intro a b hb;simp at hb;simp[hb]
  |cons z l ih=>
   intro a b hb;simp;have h1:=ih (max a z) (max a z) (.inl rfl);rcases hb with rfl|hb
   ·omega
   ·rcases ay.1 hb with rfl|hb
    ·omega
    ·exact ih _ _ (.inr hb)
 have hs:=hi.settle (h':=λy=>if γ.ω y=.dd then γ.h y+(G.map pn).foldl max 0 else γ.h y) (ω':=λy=>if γ.ω y=.dd then .free else γ.ω y) (λy=>by split<;>omega)
  (λy hy=>by
   have hl:γ.ω y=.dd:=by
    simp_all
   have ho:=hi.own y (by rw[hl];simp);simp_all)
  (λy=>by
   by_cases hl:γ.ω y=.dd
   ·simp_all
   simp_all)
  (λy b hy=>by
   by_cases hl:γ.ω y=.dd
   ·simp[hl]at hy
   ·simp[if_neg hl]at hy ⊢;exact hi.lJ y b hy)
 refine⟨_,hs,rfl,rfl,λy=>by dsimp only;split<;>omega,λbe hb=>?_,λg hg=>by simp[hg],λg hg=>by simp[hg]⟩;have hle:=mx (G.map pn) 0 be.2 (.inr (cR hb));dsimp only;split
 ·omega
 ·rename_i hl;rcases hG be hb with h|h
  ·exact h
  ·exact absurd h.1 hl
theorem Hi{k:Nat}{fl:Bool}:∀(cs:List C) {γ:Gh} {s s':St} {vs:List Value} {es:List (List D)} {dp:Bool},Inv γ h0 io w0 s f w->dS γ w cs vs->zW k fl s cs=some (es,dp,s')->
  ∃γ' G,Inv γ' h0 io w0 s' f w/\eD w es (vs.flatMap λv=>v.cells.toList) G/\Emb γ w dp G γ'/\es.length=cs.length/\(∀e∈es,e.length=k)/\(fl=true->flat es)/\∀v∈vs,v.cells.size=k
 |[],γ,s,s',vs,es,dp,hi,hc,he=>by
  simp[zW]at he;obtain⟨rfl,rfl,rfl⟩:=he;simp only[dS]at hc;subst hc;exact⟨γ,[],hi,by simp[eD],⟨rfl,rfl,λ_=>aj _,λ_ h=>by simp at h,λ_=>by simp,λ_ h=>⟨h,rfl⟩,λ_=>.inl rfl⟩,rfl,λ_ h=>by simp at h,λ_=>ja,λ_ h=>by simp at h⟩
 |c::cs,γ,s,s',vs,es,dp,hi,hc,he=>by
  simp only[dS]at hc;obtain⟨v,eb,rfl,hv,yz⟩:=hc;unfold zW at he
  split at he
  ·rename_i ds dp1 s1 h1
   split at he
   ·rename_i hk;simp only[ad]at he;obtain⟨⟨iY,dp2,s2⟩,h2,h3⟩:=he;simp only[ao]at h3;obtain⟨rfl,rfl,rfl⟩:=h3;obtain⟨qO,hlen⟩:=rQ h1;obtain⟨LN,_,_⟩:=hv.cells qO;obtain⟨pf,G1,i1,r1,e1⟩:=u0 _ hi LN h1;obtain⟨lN,G2,i2,r2,e2,l2,k2,f2,z2⟩:=Hi cs i1 (yz.mono (γ':=pf) e1.h (λ_ _ _=>rfl) e1.β e1.sl cs) h2;have mH:v.cells.size=k:=by rw[<- eI,LN.length,<- hlen];exact hk.1
    have up:∀g,B_ pf w g->B_ lN w g:=λg hg=>by
     obtain⟨u1,u2⟩:=e2.dd g hg.1;exact⟨u1,u2.trans hg.2.1,hg.2.2⟩
    refine⟨lN,G1++G2,i2,?_,⟨e2.β.trans e1.β,e2.sl.trans e1.sl,λg=>az (e1.h g) (e2.h g),λbe hb=>?_,λhd=>?_,λg hg=>?_,λg=>?_⟩,by simp[l2],?_,?_,?_⟩
    ·simp only[eD,pW];exact⟨_,_,G1,G2,rfl,rfl,r1,r2⟩
    ·rcases aL.1 hb with hb|hb
     ·rcases e1.some_ be hb with h|h
      ·exact .inl (az h (e2.h _))
      ·exact .inr (up _ h)
     ·exact e2.some_ be hb
    ·rw[ab]at hd;obtain⟨n1,l1⟩:=e1.deep hd.1;obtain⟨n2,Uz⟩:=e2.deep hd.2;refine⟨?_,λbe hb=>?_⟩
     ·rw[dc,bj];refine⟨n1,n2,?_⟩;intro a ha b hb e;subst e;obtain⟨TG,yv,rfl⟩:=bQ.1 ha;obtain⟨be2,Ap,e2'⟩:=bQ.1 hb;exact (Uz be2 Ap).2 (by rw[e2'];exact (l1 TG yv).1.1)
     ·rcases aL.1 hb with hb|hb
      ·exact⟨up _ (l1 be hb).1,(l1 be hb).2⟩
      ·refine⟨(Uz be hb).1,λh=>(Uz be hb).2 ?_⟩;exact (e1.dd _ h).1
    ·obtain⟨u1,u2⟩:=e1.dd g hg;obtain⟨u3,u4⟩:=e2.dd g u1;exact⟨u3,u4.trans u2⟩
    ·rcases e2.own g with h|h
     ·rw[h];exact e1.own g
     ·exact .inr h
    ·intro e he;rcases ay.1 he with rfl|he
     ·exact hk.1
     ·exact k2 e he
    ·intro hf e he;rcases ay.1 he with rfl|he
     ·have:=hk.2 hf
      simpa [cQ] using this
     ·exact f2 hf e he
    ·intro u hu;rcases ay.1 hu with rfl|hu
     ·exact mH
     ·exact z2 u hu
   ·cases he
  ·cases he
end
end
section
open Go.RowKit
theorem xY{b:Nat}:∀{zs:List C},zs.all C.const=true->C.jd b zs=zs
 |[],_=>by simp[C.jd]
 |z::zs,h=>by
  simp only[bW,ab]at h;have ih:=xY (b:=b) h.2;have hz:=h.1;cases z<;>simp_all[C.jd,C.kill,C.const]
def acq:Value->D->Bool
 | .int k n,.int k' n'=>k ==k' && n ==n' && k.wrap n ==n
 | .bool b,.bool b'=>b ==b'
 | .string s,.str s'=>s.data.toList ==s'.data.toList && ny s.size maxLen
 | .slice none 0 0,.list k _ []=>fh 0 k
 |_,_=>false
def Br:List Value->List D->Bool
 |[],[]=>true
 |v::vs,c::cs=>acq v c && Br vs cs
 |_,_=>false
theorem DJ{w:World}:∀(vs:List Value) (ds:List D),Br vs ds=true->ee w ds vs []
 |[],[],_=>by simp[ee]
 |[],_::_,h=>by simp[Br]at h
 |_::_,[],h=>by simp[Br]at h
 |v::vs,d::ds,h=>by
  simp only[Br,ab]at h;simp only[ee];refine⟨v,vs,[],[],rfl,rfl,?_,DJ vs ds h.2⟩;have ok:=h.1;unfold acq at ok
  split at ok
  ·simp only[ab,beq_iff_eq]at ok;obtain⟨⟨rfl,rfl⟩,hw⟩:=ok;simp[Rp,hw]
  ·simp only[beq_iff_eq]at ok;subst ok;simp[Rp]
  ·simp only[ab,beq_iff_eq,Nat.ble_eq]at ok;obtain⟨he,hw⟩:=ok;rw[FY he]at hw ⊢;simp[Rp,hw]
  ·simp only[lH]at ok;simp only[Rp];exact⟨none,0,0,rfl,rfl,aj _,by simp[maxLen],λ_=>ja,ok,λ_ h=>by simp at h,.inl ⟨rfl,trivial⟩⟩
  ·cases ok
section
variable {P:Program} {γ:Gh} {h0:Nat->Nat} {io:List Nat} {w0:World} {s s':St} {f:Fm} {w:World} {N:Nat} {ty:TypeId} {pos:String} {aft:Array Edge} {gd:Option (Nat×Bool)} {K:Fm->World->Prop}
 {cf:Nat->List A->Option (List A×List A)} {mf:Nat->Bool->List D->Int->Option (List D×Int)}
theorem I3{T:TypeId}{z:List Value}(h:qU P T=some z):∃z0:Value,z0.cells.toList=z/\∀w,(zeroValue T).run P w=.ok z0 w:=by
 unfold qU at h;cases hi:P.info? T with
 |none=>rw[hi]at h;simp at h
 |some i=>
  rw[hi]at h;cases hz:i.zero with
  |none=>simp[hz]at h
  |some z0=>
   simp[hz]at h;exact⟨z0,h,λw=>by simp[zeroValue,typeInfo,hi,hz]⟩
theorem UU(hi:Inv γ h0 io w0 s f w){T:TypeId}{z:List Value}{zs:List C}{b:Nat}(hz:qU P T=some z)(Ya:FH z zs=true)(he:kc cf mf s (some b) (.alloc zs)=some s')
  (h:∀γ' f' w',Inv γ' h0 io w0 s' f' w'->Tr (some b) [b] γ w γ' w' f f'->K f' w'):ri P N ⟨some b,.alloc T,ty,pos,aft,gd⟩ f w K:=by
 simp only[kc]at he
 split at he
 ·rename_i hc;simp only[aa]at he;subst he;obtain⟨z0,hz0,lQ⟩:=I3 hz;have lQ:(execOp (fr f N).eval ⟨some b,.alloc T,ty,pos,aft,gd⟩).run P w=.ok (.value (.pointer (some ⟨w.heap.size,0,none⟩))) (w.alloc (.cells z.toArray T)):=by
   simp[execOp,Instr.alloc,lQ,newVar,newRow,newObj,Sem.run,<- hz0]
  refine DH lQ λw1 hs hk hB=>?_;have h1:=hi.GP hk;obtain⟨γ',h2,h3,h4,h5,_,_⟩:=h1.Jo (b:=b) hB (.inl (hi.qG (aj _))) (.inl hi.size) (hi.eM _ (aj _)) (vx z zs Ya);rw[xY hc]at h2;refine h γ' _ w1 (h2.put b (.ptr b 0) _ (by simp only[CR,h3])) ⟨jS hi hk _,λx hx=>h4 x (λe=>hx (by rw[e])),λg=>by rw[h5];exact aj _,.put⟩
 ·cases he
theorem ab6(hi:Inv γ h0 io w0 s f w){T:TypeId}{x:Operand}{y:KX}{b:Nat}(hx:jl N x y=true)(he:kc cf mf s (some b) (.box y)=some s')
  (h:∀γ' f' w',Inv γ' h0 io w0 s' f' w'->Tr (some b) [b] γ w γ' w' f f'->K f' w'):ri P N ⟨some b,.box T x,ty,pos,aft,gd⟩ f w K:=by
 simp only[kc]at he
 split at he
 ·rename_i hc;simp only[aa]at he;subst he;obtain⟨Dd,_,_⟩:=(bH hi hx).cells hc;have lQ:(execOp (fr f N).eval ⟨some b,.box T x,ty,pos,aft,gd⟩).run P w=.ok (.value (.pointer (some ⟨w.heap.size,0,none⟩))) (w.alloc (.cells ((fr f N).eval x).cells.toList.toArray T)):=by
   simp[execOp,Instr.box,newVar,newRow,newObj,Sem.run]
  refine DH lQ λw1 hs hk hB=>?_;have h1:=hi.GP hk;have agr:dS γ w1 (eU s y).cells ((fr f N).eval x).cells.toList:=Dd.mono (γ':=γ) (λ_=>aj _) (jS hi hk (λ_=>False)).cell rfl rfl _;obtain⟨γ',h2,h3,h4,h5,_,_⟩:=h1.Jo (b:=b) hB (.inl (hi.qG (aj _))) (.inl hi.size) (hi.eM _ (aj _)) agr;refine h γ' _ w1 (h2.put b (.ptr b 0) _ (by simp only[CR,h3])) ⟨jS hi hk _,λx hx=>h4 x (λe=>hx (by rw[e])),λg=>by rw[h5];exact aj _,.put⟩
 ·cases he
theorem eD.GP{w w1:World}{es:List (List D)}{vs:List Value}{G:Fp}(h:eD w es vs G)(hk:D3 w.heap.size w w1):eD w1 es vs G:=
 h.cG es λbe hb j _=>World.cell?_of_block (w:=w) (hk.block _ (eD.lt es h be hb))
theorem Inv.newRow(hi:Inv γ h0 io w0 s f w){γ0:Gh}{w1:World}(hk:D3 w.heap.size w w1){T:TypeId}{us:List Value}(hB:kX w1 w.heap.size T us){es:List (List D)}{xs:List Value}{k:Nat}{fl dp:Bool}{G:Fp}{n c:Nat}(hs:w1.heap.size=w.heap.size+1)
  (hr:eD w es xs G) (hx:us.take (n * k)=xs) (hn:n=es.length) (Jc:n<=c) (hc:c<=maxLen) (hl:us.length=c * k) (tE:0 < k) (Ar:∀e∈es,e.length=k) (sR:fl=true->flat es) (he:Emb γ0 w dp G γ) (r:Nat) :
  ∃γ',Inv γ' h0 io w0 (s.newRow r ⟨es,k,fl,dp,true,false⟩) f w1/\γ'.sl r=.slice (some ⟨w.heap.size,0,none⟩) n c/\γ'.β=γ.β/\(∀g,γ.h g<=γ'.h g):=by
 have hlx:gz w1 w.heap.size 0 xs:=by
  intro j u hu;rw[bo,hB.cell];rw[<- hx,dt]at hu
  split at hu
  ·exact hu
  ·cases hu
 cases dp with
 |true=>
  obtain⟨jk,EE⟩:=he.deep rfl;have h1:=hi.GP hk;have hR:ni γ.h w1 ⟨es,k,fl,true,true,false⟩ (.slice (some ⟨w.heap.size,0,none⟩) n c) (w.heap.size::G.map bG):=by
   refine⟨_,n,c,rfl,hn,Jc,hc,tE,Ar,sR,.inr ⟨w.heap.size,0,xs,G,rfl,by omega,⟨by omega,hk.KQ _ (aj _)⟩,hr.GP hk,hlx,by rw[hi.eM _ (aj _)];omega,λ_=>hi.eM _ (aj _),λ_=>⟨rfl,T,us,hB,hl⟩,λ_=>⟨rfl,λbe hb=>⟨(EE be hb).1.2.1,(jS hi hk (λ_=>False)).eV _ (EE be hb).1.2.2⟩⟩,λh=>by cases h⟩⟩
  have ic:=eD.lt es hr;obtain⟨γ',h2,h3,h4,h5,_⟩:=h1.rD (r:=r) hR (bZ.2 ⟨λhm=>by
    obtain⟨be,hb,e⟩:=bQ.1 hm;have:=ic be hb;omega,jk⟩) (λg hg=>by
    rcases ay.1 hg with rfl|hg
    ·exact⟨.inl (hi.qG (aj _)),by omega,.inl hi.size⟩
    ·obtain⟨be,hb,rfl⟩:=bQ.1 hg;have hl:=(EE be hb).1.1;exact⟨.inr (.inl hl),by have:=ic be hb;omega,(hi.own _ (by rw[hl];simp)).2⟩)
  exact⟨γ',h2,h3,h4,λg=>by rw[h5];exact aj _⟩
 |false=>
  obtain⟨lN,i2,b2,s2,m2,aij,fr2,k2⟩:=hi.Vr G he.some_;have h1:=i2.GP hk;have hR:ni lN.h w1 ⟨es,k,fl,false,true,false⟩ (.slice (some ⟨w.heap.size,0,none⟩) n c) [w.heap.size]:=by
   refine⟨_,n,c,rfl,hn,Jc,hc,tE,Ar,sR,.inr ⟨w.heap.size,0,xs,G,rfl,by omega,⟨by omega,hk.KQ _ (aj _)⟩,hr.GP hk,hlx,by rw[i2.eM _ (aj _)];omega,λ_=>i2.eM _ (aj _),λ_=>⟨rfl,T,us,hB,hl⟩,(λh=>by cases h),λ_=>⟨rfl,aij⟩⟩⟩
  obtain⟨γ',h2,h3,h4,h5,_⟩:=h1.rD (r:=r) hR (by simp) (λg hg=>by
    simp only[ct]at hg;subst hg;exact⟨.inl (i2.qG (aj _)),by omega,.inl hi.size⟩)
  exact⟨γ',h2,h3,h4.trans b2,λg=>by rw[h5];exact m2 g⟩
def Bp(N:Nat):Nat->List (Nat×Operand)->List KX->Bool
 |_,[],[]=>true
 |j,(i,x)::ps,y::ys=>i ==j && jl N x y && Bp N (j+1) ps ys
 |_,_,_=>false
theorem DI(hi:Inv γ h0 io w0 s f w):∀(j:Nat) (ps:List (Nat×Operand)) (ys:List KX),Bp N j ps ys=true->
  dS γ w (ys.map (eU s)) (ps.map λp=>(fr f N).eval p.2)/\ps.map bG=List.range' j ps.length/\ps.length=ys.length
 |_,[],[],_=>by simp[dS]
 |_,[],_::_,h=>by simp[Bp]at h
 |_,_::_,[],h=>by simp[Bp]at h
 |j,(i,x)::ps,y::ys,h=>by
  simp only[Bp,ab,beq_iff_eq]at h;obtain⟨⟨rfl,h2⟩,h3⟩:=h;obtain⟨h4,h5,h6⟩:=DI hi (i+1) ps ys h3;refine⟨?_,by simp[List.range',h5],by simp[h6]⟩;simp only[aN,dS];exact⟨_,_,rfl,bH hi h2,h4⟩
theorem Hs{k:Nat}:∀(vs:List (Nat×Value)) (j:Nat) (pre A:List Value),pre.length=j * k->vs.map bG=List.range' j vs.length->(∀v∈vs,v.2.cells.size=k)->A.length=vs.length * k->
  Instr.fill (λi=>some (i * k,k)) (pre++A).toArray vs=some (pre++vs.flatMap λv=>v.2.cells.toList).toArray
 |[],j,pre,A,_,_,_,hA=>by
  have:A=[]:=bT (by simpa using hA);simp[Instr.fill,this]
 |(i,v)::vs,j,pre,A,hp,hf,hs,hA=>by
  simp only[aN,aE,List.range',bq]at hf;obtain⟨rfl,hf⟩:=hf;have hv:=hs (i,v) (by simp);simp only at hv
  simp only[aE,iE]at hA;simp only[Instr.fill,pX,aO,hp,hA,hv];rw[if_neg (by simp)];have e:v.cells.zipIdx.foldl (λcs (c,j)=>cs.setIfInBounds (i * k+j) c) (pre++A).toArray=((pre++v.cells.toList)++A.drop k).toArray:=by
   have h1:=MG (i * k) v.cells.toList (pre++A).toArray (by simp[hp,hA,hv]);simp only[Array.toArray_toList]at h1;rw[h1]
   congr 1
   have t1:(pre++A).take (i * k)=pre:=by rw[<- hp];exact l8
   have t2:(pre++A).drop (i * k+k)=A.drop k:=by
    rw[List.drop_append,ez (by omega),hp,lK,ak]
   unfold cZ;simp only[eI,hv,t1,t2]
  rw[e];have ih:=Hs vs (i+1) (pre++v.cells.toList) (A.drop k) (by simp[hp,hv,iE]) hf (λu hu=>hs u (by simp[hu])) (by simp[hA]);rw[ih];simp
theorem UW(hi:Inv γ h0 io w0 s f w){T E:TypeId}{n k:Nat}{fl:Bool}{ps:Array (Nat×Operand)}{ys:List KX}{r:Nat}(hU:P.underlying T=some (.slice E))(hS:mE P E=some k)(hz:n=0\/(qU P E).isSome=true)(hps:Bp N 0 ps.toList ys=true)(hn:n=ps.size)(hm:ny (n * k) 16777216=true)
  (he:kc cf mf s (some r) (.nf k fl ys)=some s') (h:∀γ' f' w',Inv γ' h0 io w0 s' f' w'->Tr (some r) (r::vD (ys.map (eU s))) γ w γ' w' f f'->K f' w'):ri P N ⟨some r,.buildSlice T n ps,ty,pos,aft,gd⟩ f w K:=by
 simp only[kc]at he
 split at he
 ·rename_i es dp s1 hem
  split at he
  ·rename_i tE;simp only[aa]at he;subst he;obtain⟨hcr,agw,hlen⟩:=DI hi 0 _ _ hps;obtain⟨pf,G,i1,r1,e1,l1,k1,f1,z1⟩:=Hi _ hi hcr hem;have mH:(ps.toList.map λp=>(fr f N).eval p.2).flatMap (λv=>v.cells.toList)=(ps.toList.map λp=>(p.1,(fr f N).eval p.2)).flatMap λv=>v.2.cells.toList:=by
    simp[List.flatMap_map]
   have Ui:n=es.length:=by rw[l1,av,<- hlen,hn,eI]
   have Up:((ps.toList.map λp=>(fr f N).eval p.2).flatMap λv=>v.cells.toList).length=n * k:=by rw[eD.length es r1 k1,Ui]
   have hm':n * k<=16777216:=by simpa using hm
   have lQ:(execOp (fr f N).eval ⟨some r,.buildSlice T n ps,ty,pos,aft,gd⟩).run P w=.ok (.value (.slice (some ⟨w.heap.size,0,none⟩) n n)) (w.alloc (.cells ((ps.toList.map λp=>(fr f N).eval p.2).flatMap λv=>v.cells.toList).toArray E)):=by
    have h24:¬(n * k > 2 ^ 24):=by omega
    have abh:∀A:Array Value,A.size=n * k->Instr.fill (λi=>some (i * k,k)) A (ps.toList.map λp=>(p.1,(fr f N).eval p.2))=some ((ps.toList.map λp=>(fr f N).eval p.2).flatMap λv=>v.cells.toList).toArray:=by
     intro A hA;have h1:=Hs (k:=k) (ps.toList.map λp=>(p.1,(fr f N).eval p.2)) 0 [] A.toList (by simp) (by rw[List.map_map,av];exact agw) (by
      intro v hv;obtain⟨p,hp,rfl⟩:=bQ.1 hv;exact z1 _ (cR hp)) (by simp[hA,hn])
     rw[mH]
     simpa using h1
    have hf2:=λzc:Array Value=>abh ((Array.range (n * k)).map (zc[· % zc.size]!)) (by simp);by_cases As:n * k=0
    ·have h3:=hf2 #[];simp only[execOp,Instr.buildSlice,Sem.run_bind,run_underlying hU,Result.andThen_ok,run_sizeOf hS,if_neg h24,if_pos As,Sem.run_pure];simp only[mW]at h3 ⊢;rw[h3];simp[newRow,newObj,Sem.run]
    ·have Uq:(qU P E).isSome=true:=by
      rcases hz with hz|hz
      ·subst hz;simp at As
      ·exact hz
     obtain⟨zl,hzl⟩:=bF.1 Uq;obtain⟨z0,_,hzr⟩:=I3 hzl;have h3:=hf2 z0.cells;simp only[execOp,Instr.buildSlice,Sem.run_bind,run_underlying hU,Result.andThen_ok,run_sizeOf hS,if_neg h24,if_neg As,hzr,Sem.run_pure];simp only[mW]at h3 ⊢;rw[h3];simp[newRow,newObj,Sem.run]
   refine DH lQ λw1 hs hk hB=>?_;obtain⟨γ',h2,h3,h4,h5⟩:=i1.newRow hk hB (n:=n) (c:=n) hs r1 (by rw[<- Up,aW]) Ui (aj _) (by simp[maxLen];have:n<=n * k:=Nat.le_mul_of_pos_right n tE;omega) Up tE k1 f1 e1 r;refine h γ' _ w1 (h2.put r (.ref r) _ (by simp only[CR,h3];exact⟨trivial,_,_,_,rfl⟩)) ⟨jS hi hk _,λx _=>by rw[h4,e1.β],λg=>az (e1.h g) (h5 g),.put⟩
  ·cases he
 ·cases he
end
end
section
open Go.RowKit
section
variable {γ:Gh} {h0:Nat->Nat} {io:List Nat} {w0:World} {s s':St} {f:Fm} {w:World}
theorem Inv.tf(hi:Inv γ h0 io w0 s f w){r:Nat}{x:Row}(hl:look s.rw r=some x) :
  ∃γ' A n c,Inv γ' h0 io w0 (s.cM r) f w/\γ'.β=γ.β/\γ'.sl=γ.sl/\γ'.h=γ.h/\(∀g,γ.ω g≠.row r->γ'.ω g=γ.ω g)/\(∀g,γ.ω g=.row r->γ'.ω g=.dd)/\
   γ.sl r=.slice A n c/\n=x.es.length/\n<=c/\c<=maxLen/\0 < x.k/\(∀e∈x.es,e.length=x.k)/\(x.fl=true->flat x.es)/\
   ((A=none/\c=0)\/∃g o xs G,A=some ⟨g,o,none⟩/\g < w.heap.size/\γ.ω g=.row r/\γ'.ω g=.dd/\mM w g/\eD w x.es xs G/\gz w g o xs/\γ.h g<=o+n * x.k/\(x.fz=false->γ.h g=0)/\
    (x.app=true->o=0/\∃T vs,kX w g T vs/\vs.length=c * x.k)/\(∀be∈G,be.2<=γ.h be.1\/(B_ γ' w be.1/\be.1≠g))/\(x.deep=true->(g::G.map bG).Nodup/\∀be∈G,B_ γ' w be.1/\γ.ω be.1=.row r)):=by
 obtain⟨F,hR,jk,qP⟩:=hi.rw r x hl;obtain⟨A,n,c,q1,q2,q3,q4,q5,q6,q7,q8⟩:=hR;have hdr:=hi.cM r;have Bn:∀g,γ.ω g=.row r->(∀b cs,look (s.cM r).bx b=some cs->γ.ω g≠.box b)/\∀q y,look (s.cM r).rw q=some y->γ.ω g≠.row q:=by
  intro g hg;refine⟨λb cs _=>by rw[hg];simp,λq y hq=>?_⟩;rw[hg];simp only[St.cM,dM]at hq
  split at hq
  ·cases hq
  ·rename_i iO;intro e;cases e;exact iO rfl
 have hs:=hdr.settle (h':=γ.h) (ω':=λy=>if γ.ω y=.row r then .dd else γ.ω y) (λ_=>aj _) (λg hg=>absurd rfl hg)
  (λy=>by
   by_cases hy:γ.ω y=.row r
   ·exact .inr ⟨.inr (by simp[hy]),by rw[hy];simp,Bn y hy⟩
   ·exact .inl (by simp[hy]))
  (λy b hy=>by
   by_cases NH:γ.ω y=.row r
   ·simp[NH]at hy
   ·simp only[if_neg NH]at hy;exact hi.lJ y b hy)
 refine⟨_,A,n,c,hs,rfl,rfl,rfl,λg hg=>by simp[hg],λg hg=>by simp[hg],q1,q2,q3,q4,q5,q6,q7,?_⟩;rcases q8 with ⟨rfl,rfl,rfl⟩|⟨g,o,xs,G,rfl,a2,a3,a4,a5,a6,a7,a8,a9,sI⟩
 ·exact .inl ⟨rfl,rfl⟩
 ·have Cr:γ.ω g=.row r:=by
   cases hd:x.deep with
   |true=>exact qP g (by rw[(a9 hd).1];simp)
   |false=>exact qP g (by rw[(sI hd).1];simp)
  have EE:x.deep=true->∀be∈G,B_ {γ with h:=γ.h,ω:=λy=>if γ.ω y=.row r then .dd else γ.ω y } w be.1/\γ.ω be.1=.row r:=λhd be hb=>by
   have hm:γ.ω be.1=.row r:=qP _ (by rw[(a9 hd).1];simp;exact .inr ⟨be.2,hb⟩);exact⟨⟨by simp[hm],((a9 hd).2 be hb).1,((a9 hd).2 be hb).2⟩,hm⟩
  refine .inr ⟨g,o,xs,G,rfl,a2,Cr,by simp[Cr],a3,a4,a5,a6,a7,a8,λbe hb=>?_,λhd=>⟨by rw[<- (a9 hd).1];exact jk,EE hd⟩⟩;cases hd:x.deep with
  |true=>
   refine .inr ⟨(EE hd be hb).1,λe=>?_⟩;rw[(a9 hd).1]at jk;exact (bZ.1 jk).1 (by rw[<- e];exact cR hb)
  |false=>exact .inl ((sI hd).2 be hb)
theorem Inv.CS(hi:Inv γ h0 io w0 s f w){r:Nat}{x:Row}{n c g o:Nat}{xs:List Value}{G:Fp}(hn:n=x.es.length)(Jc:n<=c)(hc:c<=maxLen)(tE:0 < x.k)(Ar:∀e∈x.es,e.length=x.k)(sR:x.fl=true->flat x.es)
  (hg:g < w.heap.size) (qP:γ.ω g=.dd\/γ.ω g=.free) (Wg:w0.heap.size<=g\/g∈io) (J2:mM w g) (hr:eD w x.es xs G) (hl:gz w g o xs) (hh:γ.h g<=o+n * x.k) (Gw:x.fz=false->γ.h g=0) (qV:x.app=true->o=0/\∃T vs,kX w g T vs/\vs.length=c * x.k)
  (HM:∀be∈G,be.2<=γ.h be.1\/(B_ γ w be.1/\be.1≠g)) (Aq:x.deep=true->(g::G.map bG).Nodup/\∀be∈G,B_ γ w be.1) :
  ∃γ' F,Inv γ' h0 io w0 s f w/\γ'.β=γ.β/\γ'.sl=γ.sl/\(∀y,γ.h y<=γ'.h y)/\ni γ'.h w x (.slice (some ⟨g,o,none⟩) n c) F/\F.Nodup/\(∀y∈F,(γ'.ω y=.free\/γ'.ω y=.dd\/γ'.ω y=.row r)/\y < w.heap.size/\(w0.heap.size<=y\/y∈io))/\(x.deep=false->dm γ'.h G)/\(∀y,γ'.ω y=γ.ω y\/γ'.ω y=.free):=by
 cases hd:x.deep with
 |true=>
  obtain⟨jk,EE⟩:=Aq hd;have hR:ni γ.h w x (.slice (some ⟨g,o,none⟩) n c) (g::G.map bG):=by
   refine⟨_,n,c,rfl,hn,Jc,hc,tE,Ar,sR,.inr ⟨g,o,xs,G,rfl,hg,J2,hr,hl,hh,Gw,qV,λ_=>⟨rfl,λbe hb=>(EE be hb).2⟩,λh=>by rw[hd]at h;cases h⟩⟩
  have ic:=eD.lt _ hr;exact⟨γ,_,hi,rfl,rfl,λ_=>aj _,hR,jk,λy hy=>by
    rcases ay.1 hy with rfl|hy
    ·exact⟨by rcases qP with h|h<;>simp[h],hg,Wg⟩
    ·obtain⟨be,hb,rfl⟩:=bQ.1 hy;have hl:=(EE be hb).1;exact⟨.inr (.inl hl),ic be hb,(hi.own _ (by rw[hl];simp)).2⟩,(λh=>by cases h),λ_=>.inl rfl⟩
 |false=>
  have mx:∀(l:List Nat) (a b:Nat),(b=a\/b∈l)->b<=l.foldl max a:=by
   intro l
   induction l with
   |nil=>intro a b hb;simp at hb;simp[hb]
   |cons z l ih=>
    intro a b hb;simp only[tm];have h1:=ih (max a z) (max a z) (.inl rfl);rcases hb with rfl|hb
    ·omega
    ·rcases ay.1 hb with rfl|hb
     ·omega
     ·exact ih _ _ (.inr hb)
  have hs:=hi.settle (h':=λy=>if γ.ω y=.dd/\y≠g then γ.h y+(G.map pn).foldl max 0 else γ.h y) (ω':=λy=>if γ.ω y=.dd/\y≠g then .free else γ.ω y) (λy=>by split<;>omega)
   (λy hy=>by
    have hl:γ.ω y=.dd:=by
     rcases gq (γ.ω y=.dd/\y≠g) with h|h
     ·exact h.1
     ·exact absurd (by rw[if_neg h]) hy
    have ho:=hi.own y (by rw[hl];simp);exact⟨ho.1,ho.2,λ_ _ _=>by rw[hl];simp,λ_ _ _=>by rw[hl];simp⟩)
   (λy=>by
    by_cases hl:γ.ω y=.dd/\y≠g
    ·exact .inr ⟨.inl (by rw[if_pos hl]),by rw[hl.1];simp,λ_ _ _=>by rw[hl.1];simp,λ_ _ _=>by rw[hl.1];simp⟩
    ·exact .inl (by rw[if_neg hl]))
   (λy b hy=>by
    by_cases hl:γ.ω y=.dd/\y≠g
    ·rw[if_pos hl]at hy;cases hy
    ·rw[if_neg hl]at hy ⊢;exact hi.lJ y b hy)
  have jV:dm (λy=>if γ.ω y=.dd/\y≠g then γ.h y+(G.map pn).foldl max 0 else γ.h y) G:=by
   intro be hb;have hle:=mx (G.map pn) 0 be.2 (.inr (cR hb));dsimp only;split
   ·omega
   ·rename_i hl;rcases HM be hb with h|h
    ·exact h
    ·exact absurd ⟨h.1.1,h.2⟩ hl
  have XO:(λy=>if γ.ω y=.dd/\y≠g then γ.h y+(G.map pn).foldl max 0 else γ.h y) g=γ.h g:=by simp
  have hR:ni (λy=>if γ.ω y=.dd/\y≠g then γ.h y+(G.map pn).foldl max 0 else γ.h y) w x (.slice (some ⟨g,o,none⟩) n c) [g]:=by
   refine⟨_,n,c,rfl,hn,Jc,hc,tE,Ar,sR,.inr ⟨g,o,xs,G,rfl,hg,J2,hr,hl,by rw[XO];exact hh,λh=>by rw[XO];exact Gw h,qV,(λh=>by rw[hd]at h;cases h),λ_=>⟨rfl,jV⟩⟩⟩
  exact⟨_,[g],hs,rfl,rfl,λy=>by dsimp only;split<;>omega,hR,by simp,λy hy=>by
    simp only[ct]at hy;subst hy;refine⟨?_,hg,Wg⟩;rcases qP with h|h<;>simp[h],λ_=>jV,λy=>by dsimp only;split<;>simp⟩
theorem Inv.rK(hi:Inv γ h0 io w0 s f w){r:Nat}{x:Row}{n c g o:Nat}{xs:List Value}{G:Fp}(hn:n=x.es.length)(Jc:n<=c)(hc:c<=maxLen)(tE:0 < x.k)(Ar:∀e∈x.es,e.length=x.k)(sR:x.fl=true->flat x.es)
  (hg:g < w.heap.size) (qP:γ.ω g=.dd\/γ.ω g=.free) (Wg:w0.heap.size<=g\/g∈io) (J2:mM w g) (hr:eD w x.es xs G) (hl:gz w g o xs) (hh:γ.h g<=o+n * x.k) (Gw:x.fz=false->γ.h g=0) (qV:x.app=true->o=0/\∃T vs,kX w g T vs/\vs.length=c * x.k)
  (HM:∀be∈G,be.2<=γ.h be.1\/(B_ γ w be.1/\be.1≠g)) (Aq:x.deep=true->(g::G.map bG).Nodup/\∀be∈G,B_ γ w be.1) :
  ∃γ',Inv γ' h0 io w0 (s.newRow r x) f w/\γ'.sl r=.slice (some ⟨g,o,none⟩) n c/\γ'.β=γ.β/\(∀y,γ.h y<=γ'.h y)/\∀q,q≠r->γ'.sl q=γ.sl q:=by
 obtain⟨pf,F,i1,b1,s1,m1,hR,jk,hF,hsG,hwG⟩:=hi.CS (r:=r) hn Jc hc tE Ar sR hg qP Wg J2 hr hl hh Gw qV HM Aq;obtain⟨γ',h2,h3,h4,h5,_,h6⟩:=i1.rD (r:=r) hR jk hF;exact⟨γ',h2,h3,h4.trans b1,λy=>by rw[h5];exact m1 y,λq hq=>by rw[h6 q hq,s1]⟩
theorem Inv.sJ(hi:Inv γ h0 io w0 s f w){r:Nat}{x:Row}{n c g o:Nat}{xs:List Value}{G:Fp}(hn:n=x.es.length)(Jc:n<=c)(hc:c<=maxLen)(tE:0 < x.k)(Ar:∀e∈x.es,e.length=x.k)(sR:x.fl=true->flat x.es)
  (hg:g < w.heap.size) (qP:γ.ω g=.dd\/γ.ω g=.free) (Wg:w0.heap.size<=g\/g∈io) (J2:mM w g) (hr:eD w x.es xs G) (hl:gz w g o xs) (hh:γ.h g<=o+n * x.k) (Gw:x.fz=false->γ.h g=0) (qV:x.app=true->o=0/\∃T vs,kX w g T vs/\vs.length=c * x.k)
  (HM:∀be∈G,be.2<=γ.h be.1\/(B_ γ w be.1/\be.1≠g)) (Aq:x.deep=true->(g::G.map bG).Nodup/\∀be∈G,B_ γ w be.1) (sS:γ.sl r=.slice (some ⟨g,o,none⟩) n c) :
  ∃γ',Inv γ' h0 io w0 (s.setRow r x) f w/\γ'.sl=γ.sl/\γ'.β=γ.β/\(∀y,γ.h y<=γ'.h y)/\(x.deep=false->dm γ'.h G)/\(∀y,γ'.ω y=γ.ω y\/γ'.ω y=.free\/γ'.ω y=.row r):=by
 obtain⟨pf,F,i1,b1,s1,m1,hR,jk,hF,hsG,hwG⟩:=hi.CS (r:=r) hn Jc hc tE Ar sR hg qP Wg J2 hr hl hh Gw qV HM Aq;rw[<- sS,<- s1]at hR;obtain⟨γ',h2,h3,h4,h5,h6⟩:=i1.setRow (r:=r) hR jk hF;exact⟨γ',h2,h3.trans s1,h4.trans b1,λy=>by rw[h5];exact m1 y,λhd=>by rw[h5];exact hsG hd,λy=>by
  rcases h6 y with h|h
  ·rw[h];rcases hwG y with h'|h'
   ·exact .inl h'
   ·exact .inr (.inl h')
  ·exact .inr (.inr h)⟩
theorem l9(hi:Inv γ h0 io w0 s f w){g:Nat}{w1:World}{M:Own->Prop}(ho:Tj g w w1)(hM:M (γ.ω g))(hc:∀j,j < γ.h g->w1.cell? ⟨g,j,none⟩=w.cell? ⟨g,j,none⟩):sG γ M w w1 where
 os:=ho.os
 tape:=ho.tape
 output:=ho.output
 size:=by rw[ho.size];exact aj _
 block y hy hn:=ho.block y (λe=>hn (e▸hM))
 cell y j hj:=by
  by_cases e:y=g
  ·subst e;exact hc j hj
  ·exact World.cell?_of_block (w:=w) (ho.block y e)
 eV y hy:=⟨by rw[ho.size];exact hy.1,λj=>by
  by_cases e:y=g
  ·subst e;exact ho.fz j
  ·rw[World.frozen?_of_block (w:=w) (ho.block y e)];exact hy.2 j⟩
end
theorem Kv(p m q u:List Value)(h:u.length=m.length):cZ (p++(m++q)) p.length u=p++u++q:=by
 unfold cZ;rw[l8,List.drop_append,ez (by omega),lK,ak,List.drop_append,ez (by omega),h,oP];simp
theorem uC{cs vs:List Value}{i:Nat}(h:i+vs.length<=cs.length):(cZ cs i vs).length=cs.length:=by
 unfold cZ;simp
 omega
theorem Kf{g:Nat}{Ga Gp Gm Gs Gc G1:Fp}(h:(g::(Ga++((Gp++(Gm++Gs))++Gc)).map bG).Nodup)(h1:(G1.map bG).Nodup)(hd:∀y∈(Ga++((Gp++(Gm++Gs))++Gc)).map bG,y∉G1.map bG)(hg:g∉G1.map bG) :
  (g::(Ga++((Gp++G1++Gs)++Gc)).map bG).Nodup:=by
 simp only[dc,bZ,aL,bj,not_or]at *
 grind
section
variable {P:Program} {γ:Gh} {h0:Nat->Nat} {io:List Nat} {w0:World} {s s':St} {f:Fm} {w:World} {N:Nat} {ty:TypeId} {pos:String} {aft:Array Edge} {gd:Option (Nat×Bool)} {K:Fm->World->Prop}
 {cf:Nat->List A->Option (List A×List A)} {mf:Nat->Bool->List D->Int->Option (List D×Int)}
theorem DC{z:Array Value}{k:Nat}(hz:z.size=k)(hk:0 < k):∀m:Nat,(madeCells z (m * k)).toList=(aC m z.toList).flatten
 |0=>by simp[madeCells]
 |m+1=>by
  rw[fp,dh,<- DC hz hk m]
  apply ed
  intro i;have g1:∀n j,(madeCells z n).toList[j]?=if j < n then some z[j % z.size]! else none:=by
   intro n j;simp only[madeCells,mW,Array.toList_range,List.getElem?_map];split
   ·rename_i h;simp[h]
   ·rename_i h;simp[h]
  rw[g1,uH,g1];simp only[eI,hz,iE];by_cases h1:i < k
  ·rw[if_pos (by omega),if_pos h1,Nat.mod_eq_of_lt h1];simp[hz,h1]
  ·rw[if_neg h1];by_cases h2:i < m * k+k
   ·rw[if_pos h2,if_pos (by omega)]
    congr 2
    rw[Nat.mod_eq_sub_mod (by omega)]
   ·rw[if_neg h2,if_neg (by omega)]
theorem MI{w:World}{zs:List D}{vs:List Value}(h:ee w zs vs []):∀m:Nat,eD w (aC m zs) (aC m vs).flatten []
 |0=>by simp[eD]
 |m+1=>by
  rw[fp,fp,dh];simp only[eD];exact⟨vs,_,[],[],rfl,rfl,h,MI h m⟩
theorem Yv(hi:Inv γ h0 io w0 s f w){T E:TypeId}{k by_:Nat}{fl:Bool}{zs:List D}{x x':Operand}{y:KX}{r:Nat}{i:TypeInfo}{z:Value}(hU:P.underlying T=some (.slice E))(hI:P.info? E=some i)(hz:i.zero=some z)(mH:i.size=k)(XJ:i.bytes=by_)(tE:0 < k)(hzd:Br z.cells.toList zs=true)(hzl:zs.length=k)(sR:fl=true->cQ zs=true)
  (hx:jl N x y=true) (hx':jl N x' y=true) (he:kc cf mf s (some r) (.make k by_ fl zs y)=some s') (h:∀γ' f' w',Inv γ' h0 io w0 s' f' w'->Tr (some r) [r] γ w γ' w' f f'->K f' w'):ri P N ⟨some r,.makeSlice T x x',ty,pos,aft,gd⟩ f w K:=by
 have hv:=bH hi hx;have OV:=bH hi hx';simp only[kc]at he
 split at he
 ·rename_i r' n hr hn;cases hr;rw[hn]at hv OV;obtain⟨hv,_⟩:=gT hv;obtain⟨OV,_⟩:=gT OV
  split at he
  ·rename_i hc;obtain⟨c1,c2,c3⟩:=hc;simp only[aa]at he;subst he;have yv:(i.bytes:Int) * n<=281474976710656:=by
    rw[XJ];have c2':n.toNat * by_<=140737488355328:=c2;have:((n.toNat * by_:Nat):Int)<=140737488355328:=Int.ofNat_le.2 c2';rw[Int.natCast_mul,Int.toNat_of_nonneg c1,Int.mul_comm]at this;omega
   have lQ:=run_make (P:=P) w T E i z hU hI hz .i64 .i64 n n c1 (Int.le_refl _) yv (by omega);have abx:ee w zs z.cells.toList []:=DJ _ _ hzd;have hzc:z.cells.size=k:=by rw[<- eI,ee.length _ abx,hzl]
   have lh:=DC hzc tE n.toNat;have aby:(execOp (fr f N).eval ⟨some r,.makeSlice T x x',ty,pos,aft,gd⟩).run P w=.ok (.value (.slice (some ⟨w.heap.size,0,none⟩) n.toNat n.toNat)) (w.alloc (.cells (aC n.toNat z.cells.toList).flatten.toArray E)):=by
    rw[mH]at lQ;rw[<- lh];simp[execOp,hv,OV,lQ]
   have NC:=MI abx n.toNat;have Ar:∀e∈aC n.toNat zs,e.length=k:=λe he=>by rw[(List.mem_replicate.1 he).2];exact hzl
   have hlen:((aC n.toNat z.cells.toList).flatten).length=n.toNat * k:=by rw[eD.length _ NC Ar];simp
   refine DH aby λw1 hs hk hB=>?_;obtain⟨γ',h2,h3,h4,h5⟩:=hi.newRow (γ0:=γ) (dp:=true) hk hB (n:=n.toNat) (c:=n.toNat) hs NC (by rw[<- hlen,aW]) (by simp) (aj _) (by simp[maxLen];omega) hlen tE Ar (λhf e he x hx=>by
     have h1:=sR hf;rw[(List.mem_replicate.1 he).2]at hx;simp only[cQ,aS]at h1;exact h1 x hx) ⟨rfl,rfl,λ_=>aj _,λ_ h=>by simp at h,λ_=>by simp,λ_ h=>⟨h,rfl⟩,λ_=>.inl rfl⟩ r
   exact h γ' _ w1 (h2.put r (.ref r) _ (by simp only[CR,h3];exact⟨trivial,_,_,_,rfl⟩)) ⟨jS hi hk _,λx _=>by rw[h4],λg=>h5 g,.put⟩
  ·cases he
 ·cases he
theorem agY(hi:Inv γ h0 io w0 s f w){T:TypeId}{x v:Operand}{a b:KX}{n:Nat}(hS:mE P T=some n)(hx:jl N x a=true)(hv:jl N v b=true)(he:kc cf mf s none (.st n a b)=some s')
  (h:∀γ' f' w',Inv γ' h0 io w0 s' f' w'->Tr none (dW s none (.st n a b)) γ w γ' w' f f'->K f' w'):ri P N ⟨none,.store T x v,ty,pos,aft,gd⟩ f w K:=by
 have ql:=bH hi hx;have hpv:=bH hi hv;have fin:∀(g o:Nat) (T':TypeId) (cs:List Value),(fr f N).eval x=.pointer (some ⟨g,o,none⟩)->kX w g T' cs->((fr f N).eval v).cells.toList.length=n->o+n<=cs.length->(∀u∈((fr f N).eval v).cells.toList,one u=true)->
   (execOp (fr f N).eval ⟨none,.store T x v,ty,pos,aft,gd⟩).run P w=.ok .skip (gk w g (.cells (cZ cs o ((fr f N).eval v).cells.toList).toArray T' (0,0))):=by
  intro g o T' cs hp hB hl ho h1;have Ct:=lz (P:=P) (o:=o) ((fr f N).eval v).cells.toList 0 w cs hB (by omega) h1;simp only[eA]at Ct;have mH:((fr f N).eval v).cells.size=n:=by rw[<- eI];exact hl
  simp[execOp,Instr.storeAt,hp,Instr.sureAddr,storeVar,run_sizeOf hS,mH,Ct]
 have acr:∀{cs:List C} {vs:List Value},dS γ w cs vs->cs.all C.cell=true->∀u∈vs,one u=true:=by
  intro cs
  induction cs with
  |nil=>intro vs h _;simp only[dS]at h;simp[h]
  |cons c cs ih=>
   intro vs h hc;simp only[dS]at h;obtain⟨v,eb,rfl,h2,h3⟩:=h;simp only[bW,ab]at hc;intro u hu;rcases ay.1 hu with rfl|hu
   ·cases c with
    |d x=>simp only[CR]at h2;obtain⟨F,h4,_⟩:=h2;exact h4.qQ
    |nil k fl=>simp only[CR]at h2;rw[h2.1];rfl
    |ref r=>simp only[CR]at h2;obtain⟨_,A,n,c,rfl⟩:=h2;rfl
    |_=>simp[C.cell]at hc
   ·exact ih h3 hc.2 u hu
 simp only[kc]at he
 split at he
 ·rename_i b' o hb;rw[hb]at ql;simp only[CR]at ql
  split at he
  ·rename_i cs hl
   split at he
   ·rename_i hc;obtain⟨c1,c2,c3⟩:=hc;simp only[aa]at he;subst he;obtain⟨T',vs,h1,h2,h3⟩:=hi.bx b' cs hl;obtain⟨LN,_,_⟩:=hpv.cells c1;have hlen:=LN.length;refine FF (fin _ _ _ _ ql h1 (by rw[hlen];exact c2) (by rw[h2.length];exact c3) (acr LN c1)) ?_;have lj:=Tj.gk w (γ.β b') (cZ vs o ((fr f N).eval v).cells.toList).toArray T';have mP:sG γ (λo=>∃i∈[b'],o=.box i\/o=.row i) w _:=l9 hi lj ⟨b',by simp,.inl h3⟩ (λj hj=>by rw[hi.lJ _ _ h3]at hj;omega);have Wd:Inv γ h0 io w0 {s with bx:=po s.bx b' } f w:=hi.sub (λ_ _ h=>h) (λd c h=>by
     simp only[dM]at h
     split at h
     ·cases h
     ·exact h) (λ_ _ h=>h)
    have h5:=Wd.M6 (l9 Wd lj (M:=λo=>o=.box b') h3 (λj hj=>by rw[hi.lJ _ _ h3]at hj;omega)) (by simp) (λb hb=>by cases hb;simp[dM]) (λr hr=>by cases hr);have abp:∀{cs:List C} {us:List Value},dS γ w cs us->dS γ (gk w (γ.β b') (.cells (cZ vs o ((fr f N).eval v).cells.toList).toArray T' (0,0))) cs us:=λh=>h.mono (γ':=γ) (λ_=>aj _) mP.cell rfl rfl _;have h6:=h5.eN (b:=b') (h1.kz T' _) h3 (abp (h2.ZG o LN));have e:({s with bx:=po s.bx b' }:St).eN b' (fP cs o (eU s b).cells)=s.eN b' (fP cs o (eU s b).cells):=by
     have:po (po s.bx b') b'=po s.bx b':=by simp[po,lE]
     simp[St.eN,this]
    rw[e]at h6;refine h γ f _ h6 ⟨?_,λ_ _=>rfl,λ_=>aj _,.skip⟩;simp only[dW,hb];exact mP
   ·cases he
  ·cases he
 ·rename_i r k i o hb;rw[hb]at ql;simp only[CR]at ql;obtain⟨g,p,m,cc,sS,hp⟩:=ql
  split at he
  ·rename_i ds dp s1 hem;obtain⟨qO,xW⟩:=rQ hem;obtain⟨LN,_,_⟩:=hpv.cells qO;obtain⟨pf,G1,i1,r1,e1⟩:=u0 _ hi LN hem
   split at he
   ·rename_i row hl
    split at he
    ·rename_i e Ez
     split at he
     ·rename_i hc;obtain⟨rfl,Gw,qV,HC,hon,sR,hdd⟩:=hc;simp only[aa]at he;subst he;rw[cV]at Ez;obtain⟨lN,A,n',c',i2,b2,yi,n6,o2,l2,q1,q2,q3,q4,q5,q6,q7,q8⟩:=i1.tf hl;rw[e1.sl,sS]at q1;simp only[Value.slice.injEq]at q1;obtain⟨rfl,rfl,rfl⟩:=q1;rcases q8 with ⟨q8,_⟩|⟨g',p',xs,G,a1,a2,a3,a4,a5,a6,a7,a8,a9,sI,Tm,a12⟩
      ·cases q8
      ·simp only[aa,Addr.mk.injEq,and_true]at a1;obtain⟨rfl,rfl⟩:=a1;obtain⟨rfl,T',vs,hB,HN⟩:=sI qV;have yU:pf.h g=0:=a9 Gw;have XQ:=(aI.1 Ez).1;have yw:=q6 e (cK Ez);have hul:=LN.length;have hus:((fr f N).eval v).cells.toList.length=n:=by rw[hul,<- xW];exact HC
       have hik:i * row.k+row.k<=row.es.length * row.k:=by rw[<- iE];exact er _ XQ
       have hck:row.es.length * row.k<=cc * row.k:=er _ (by omega);refine FF (fin _ _ _ _ hp hB hus (by omega) (acr LN qO)) ?_;have lj:=Tj.gk w g (cZ vs (0+i * row.k+o) ((fr f N).eval v).cells.toList).toArray T';have QZ:γ.ω g=.row r:=by
        rcases e1.own g with h|h|h
        ·rw[<- h];exact a3
        ·rw[a3]at h;cases h
        ·rw[a3]at h;cases h
       have agR:γ.h g=0:=by have:=e1.h g;omega
       have mP:sG γ (λo=>∃i∈r::rowsOf (eU s b).cells,o=.box i\/o=.row i) w _:=l9 hi lj ⟨r,by simp,.inr QZ⟩ (λj hj=>by rw[agR]at hj;omega);have h5:=i2.M6 (l9 i2 lj (M:=λo=>o=.dd) a4 (λj hj=>by rw[n6,yU]at hj;omega)) (by simp) (λb hb=>by cases hb) (λr hr=>by cases hr);have e0:row.es=row.es.take i++(e::row.es.drop (i+1)):=by
        rw[<- (aI.1 Ez).2,List.getElem_cons_drop,a_]
       have a6':=a6;rw[e0]at a6';obtain⟨x1,x2,Ga,Gb,ex,eG,ra,rb⟩:=eD.fv _ a6';simp only[eD]at rb;obtain⟨xe,x3,Ge,Gc,ex2,eG2,re,rc⟩:=rb;subst ex2 eG2;have Ja:x1.length=i * row.k:=by
        rw[eD.length _ ra (λx hx=>q6 x (bM hx)),aY,dU (by omega)]
       have hle:xe.length=row.k:=by rw[ee.length _ re];exact yw
       have e2:e=e.take o++((e.drop o).take n++e.drop (o+n)):=by
        rw[<- pj,a_,a_]
       have re':=re;rw[e2]at re';obtain⟨xa,xr,Gp,Gr,ex3,eG3,rp,rr⟩:=ee.fv _ re';obtain⟨xm,xc,Gm,Gs,ex4,eG4,rm,rs⟩:=ee.fv _ rr;subst ex3 eG3 ex4 eG4;have hla:xa.length=o:=by rw[ee.length _ rp,aY,yw,dU (by omega)]
       have hlm:xm.length=n:=by rw[ee.length _ rm,aY,gN,yw,dU (by omega)]
       have eM:ee w (fP e o ds) (xa++((fr f N).eval v).cells.toList++xc) (Gp++G1++Gs):=by
        unfold fP;rw[HC];exact ee.append _ (ee.append _ rp r1) rs
       have Up:xs.length<=vs.length:=by rw[eD.length _ a6 q6,HN];exact hck
       have Uk:vs=xs++vs.drop xs.length:=by
        have:vs.take xs.length=xs:=by
         apply ed
         intro j;rw[dt];by_cases hj:j < xs.length
         ·rw[if_pos hj];have h7:=a7 j xs[j] (by simp[hj]);rw[bo,hB.cell]at h7;rw[h7];simp[hj]
         ·rw[if_neg hj,jN (by omega)]
        rw[<- a_ xs.length vs,this];simp
       have X5:cZ vs (0+i * row.k+o) ((fr f N).eval v).cells.toList=(x1++((xa++((fr f N).eval v).cells.toList++xc)++x3))++vs.drop xs.length:=by
        have e5:vs=(x1++xa)++(xm++(xc++x3++vs.drop xs.length)):=by
         rw[ex]at Uk;rw[ex]
         simpa using Uk
        have h7:=Kv (x1++xa) xm (xc++x3++vs.drop xs.length) ((fr f N).eval v).cells.toList (by omega);rw[<- e5]at h7;rw[show 0+i * row.k+o=(x1++xa).length from by simp[Ja,hla],h7];simp
       have XS:gz (gk w g (.cells (cZ vs (0+i * row.k+o) ((fr f N).eval v).cells.toList).toArray T' (0,0))) g 0 (x1++((xa++((fr f N).eval v).cells.toList++xc)++x3)):=by
        have h7:=(hB.kz T' (cZ vs (0+i * row.k+o) ((fr f N).eval v).cells.toList)).J9;intro j u hu;refine h7 j u ?_;rw[X5,cl (aI.1 hu).1];exact hu
       have hold:∀be∈Ga++((Gp++Gs)++Gc),be∈G:=by
        intro be hb;rw[eG];simp only[aL]at hb ⊢
        grind
       have tq:∀be∈Ga++((Gp++G1++Gs)++Gc),be∈G\/be∈G1:=by
        intro be hb;simp only[aL]at hb;by_cases h8:be∈G1
        ·exact .inr h8
        ·refine .inl (hold be ?_);simp only[aL]
         grind
       have J1:∀be∈Ga++((Gp++G1++Gs)++Gc),be.2<=lN.h be.1\/(B_ lN (gk w g (.cells (cZ vs (0+i * row.k+o) ((fr f N).eval v).cells.toList).toArray T' (0,0))) be.1/\be.1≠g):=by
        intro be hb;rcases tq be hb with h8|h8
        ·rcases Tm be h8 with h9|⟨h9,Gv⟩
         ·exact .inl (by rw[n6];exact h9)
         ·exact .inr ⟨⟨h9.1,h9.2.1,by rw[fD];exact h9.2.2.1,λj=>by rw[World.frozen?_of_block (w:=w) (lj.block _ Gv)];exact h9.2.2.2 j⟩,Gv⟩
        ·rcases e1.some_ be h8 with h9|h9
         ·exact .inl (by rw[n6];exact h9)
         ·have Gv:be.1≠g:=λe=>by have:=h9.1;rw[e,a3]at this;cases this
          exact .inr ⟨⟨by rw[o2 _ (by rw[h9.1];simp)];exact h9.1,by rw[n6];exact h9.2.1,by rw[fD];exact h9.2.2.1,λj=>by rw[World.frozen?_of_block (w:=w) (lj.block _ Gv)];exact h9.2.2.2 j⟩,Gv⟩
       have ND:eD (gk w g (.cells (cZ vs (0+i * row.k+o) ((fr f N).eval v).cells.toList).toArray T' (0,0))) (row.es.set i (fP e o ds)) (x1++((xa++((fr f N).eval v).cells.toList++xc)++x3)) (Ga++((Gp++G1++Gs)++Gc)):=by
        have h7:eD w (row.es.set i (fP e o ds)) (x1++((xa++((fr f N).eval v).cells.toList++xc)++x3)) (Ga++((Gp++G1++Gs)++Gc)):=by
         rw[List.set_eq_take_append_cons_drop,if_pos XQ];refine eD.append _ ra ?_;simp only[eD];exact⟨_,_,_,_,rfl,rfl,eM,rc⟩
        refine h7.cG _ λbe hb j hj=>?_;by_cases h8:be.1=g
        ·rcases J1 be hb with h9|h9
         ·rw[h8,n6,yU]at h9;omega
         ·exact absurd h8 h9.2
        ·exact World.cell?_of_block (w:=w) (lj.block _ h8)
       obtain⟨MY,h6,h7,h8,h9,_,_⟩:=h5.sJ (r:=r) (x:={row with es:=row.es.set i (fP e o ds) }) (n:=m) (c:=cc) (g:=g) (o:=0) (by simp[q2]) q3 q4 q5
        (λy hy=>by
         rcases kD hy with h|h
         ·exact q6 y h
         ·rw[h];unfold fP;simp[yw];omega)
        (λhf y hy=>by
         rcases kD hy with h|h
         ·exact q7 hf y h
         ·rw[h];intro z hz;unfold fP at hz;simp only[aL]at hz;rcases hz with (hz|hz)|hz
          ·exact q7 hf e (cK Ez) z (bM hz)
          ·have:=sR hf;simp only[cQ,aS]at this;exact this z hz
          ·exact q7 hf e (cK Ez) z (iz hz))
        (by rw[fD];exact a2) (.inl a4) (by have:=(i2.own g (by rw[a4];simp)).2;exact this) ⟨by rw[fD];omega,lj.fz⟩ ND XS (by rw[n6,yU];omega) (λ_=>by rw[n6,yU]) (λ_=>⟨rfl,T',_,hB.kz T' _,by rw[uC (by omega)];exact HN⟩)
        J1
        (λhd=>by
         have Wc:dp=true:=by
          have hd':row.deep=true:=hd
          simpa [hd'] using hdd
         obtain⟨n1,l1⟩:=e1.deep Wc;obtain⟨n2,Uz⟩:=a12 hd;refine⟨?_,λbe hb=>?_⟩
         ·have Wb:∀y∈G.map bG,y∉G1.map bG:=by
           intro y hy hy1;obtain⟨be,hb,rfl⟩:=bQ.1 hy;obtain⟨TG,yv,e8⟩:=bQ.1 hy1;have u1:=(Uz be hb).2;have u2:=(l1 TG yv).1.1;rw[e8,u1]at u2;cases u2
          have hg1:g∉G1.map bG:=by
           intro hy1;obtain⟨TG,yv,e8⟩:=bQ.1 hy1;have u2:=(l1 TG yv).1.1;rw[e8,a3]at u2;cases u2
          rw[eG]at n2 Wb;exact Kf n2 n1 Wb hg1
         ·rcases J1 be hb with Gv|Gv
          ·rcases tq be hb with Nr|Nr
           ·have:=(Uz be Nr).1;rcases Tm be Nr with JR|JR
            ·refine⟨this.1,this.2.1,?_⟩;have iO:be.1≠g:=λe9=>by
              have:=(bZ.1 n2).1;exact this (by rw[<- e9];exact cR Nr)
             exact⟨by rw[fD];exact this.2.2.1,λj=>by rw[World.frozen?_of_block (w:=w) (lj.block _ iO)];exact this.2.2.2 j⟩
            ·exact⟨this.1,this.2.1,by rw[fD];exact this.2.2.1,λj=>by rw[World.frozen?_of_block (w:=w) (lj.block _ JR.2)];exact this.2.2.2 j⟩
           ·have JR:=(l1 be Nr).1;have iO:be.1≠g:=λe=>by have:=JR.1;rw[e,a3]at this;cases this
            exact⟨by rw[o2 _ (by rw[JR.1];simp)];exact JR.1,by rw[n6];exact JR.2.1,by rw[fD];exact JR.2.2.1,λj=>by rw[World.frozen?_of_block (w:=w) (lj.block _ iO)];exact JR.2.2.2 j⟩
          ·exact Gv.1)
        (by rw[yi,e1.sl];exact sS)
       have e6:(s1.cM r).setRow r {row with es:=row.es.set i (fP e o ds) }=s1.setRow r {row with es:=row.es.set i (fP e o ds) }:=by
        have:po (po s1.rw r) r=po s1.rw r:=by simp[po,lE]
        simp[St.setRow,St.cM,this]
       rw[e6]at h6;refine h MY f _ h6 ⟨?_,λ_ _=>by rw[h8,b2,e1.β],λy=>by have:=h9 y;rw[n6]at this;exact az (e1.h y) this,.skip⟩;simp only[dW,hb];exact mP
     ·cases he
    ·cases he
   ·cases he
  ·cases he
 ·cases he
end
end
section
open Go.RowKit
section
variable {P:Program} {γ:Gh} {h0:Nat->Nat} {io:List Nat} {w0:World} {s s':St} {f:Fm} {w:World} {N:Nat} {ty:TypeId} {pos:String} {aft:Array Edge} {gd:Option (Nat×Bool)} {K:Fm->World->Prop}
 {cf:Nat->List A->Option (List A×List A)} {mf:Nat->Bool->List D->Int->Option (List D×Int)}
theorem Jp(hi:Inv γ h0 io w0 s f w){c:C}{u:Value}(hc:CR γ w c u){k:Nat}{fl:Bool}{es:List (List D)}{dp:Bool}{s1:St}(he:mN s k fl c=some (es,dp,s1)) :
  ∃pf G news,Inv pf h0 io w0 s1 f w/\eD w es news G/\Emb γ w dp G pf/\(∀e∈es,e.length=k)/\(fl=true->flat es)/\((es.length=0/\∃A c,u=.slice A 0 c)\/∃b o c,u=.slice (some ⟨b,o,none⟩) es.length c/\gz w b o news):=by
 cases c with
 |d x=>
  cases x with
  |list k' sO iY=>
   simp only[mN]at he
   split at he
   ·rename_i hk;obtain⟨rfl,rfl⟩:=hk;simp only[aa,ao]at he;obtain⟨rfl,rfl,rfl⟩:=he;simp only[CR,Rp]at hc;obtain⟨F,⟨A,n,c,q1,q2,q3,q4,q5,q6,q7,q8⟩,jV⟩:=hc;rcases q8 with ⟨q8,rfl⟩|⟨h1,b,o,xs,G,rfl,rfl,a2,a3⟩
    ·have:iY=[]:=bT (by omega);subst this;exact⟨γ,[],[],hi,by simp[eD],⟨rfl,rfl,λ_=>aj _,λ_ h=>by simp at h,λ_=>by simp,λ_ h=>⟨h,rfl⟩,λ_=>.inl rfl⟩,q7,q5,.inl ⟨rfl,A,c,by rw[q1,q8]⟩⟩
    ·refine⟨γ,G,xs,hi,a2,⟨rfl,rfl,λ_=>aj _,λbe hb=>.inl (jV be (by simp[hb])),λhf=>?_,λ_ h=>⟨h,rfl⟩,λ_=>.inl rfl⟩,q7,q5,.inr ⟨b,o,c,by rw[q1,q2],a3⟩⟩;have:G=[]:=a2.plain (q5 hf);subst this;simp
   ·cases he
  |_=>simp[mN]at he
 |nil k' sO=>
  simp only[mN,aa,ao]at he;obtain⟨rfl,rfl,rfl⟩:=he;simp only[CR]at hc;exact⟨γ,[],[],hi,by simp[eD],⟨rfl,rfl,λ_=>aj _,λ_ h=>by simp at h,λ_=>by simp,λ_ h=>⟨h,rfl⟩,λ_=>.inl rfl⟩,λ_ h=>by simp at h,λ_=>ja,.inl ⟨rfl,none,0,hc.1⟩⟩
 |ref q=>
  simp only[mN]at he
  split at he
  ·rename_i x hx
   split at he
   ·rename_i hk;obtain⟨rfl,rfl⟩:=hk;simp only[aa,ao]at he;obtain⟨rfl,rfl,rfl⟩:=he;obtain⟨pf,G1,i1,b1,Vv,m1,r1,s1',d1,o1,k1,w1⟩:=hi.take hx;simp only[CR]at hc;simp only[Rp]at r1;obtain⟨A,n,c,q1,q2,q3,q4,q5,q6,q7,q8⟩:=r1;have abU:∀g,γ.ω g=.dd->pf.ω g=.dd/\pf.h g=γ.h g:=λg hg=>by
     have:=k1 g (by rw[hg];simp);exact⟨this.1.trans hg,this.2⟩
    rcases q8 with ⟨q8,rfl⟩|⟨h1,b,o,xs,G,rfl,rfl,a2,a3⟩
    ·have:x.es=[]:=bT (by omega);rw[this];exact⟨pf,[],[],i1,by simp[eD],⟨b1,Vv,m1,λ_ h=>by simp at h,λ_=>by simp,abU,w1⟩,λ_ h=>by simp at h,λ_=>ja,.inl ⟨rfl,A,c,by rw[hc.1,q1,q8]⟩⟩
    ·refine⟨pf,G,xs,i1,a2,⟨b1,Vv,m1,λbe hb=>?_,λhf=>?_,abU,w1⟩,q7,q5,.inr ⟨b,o,c,by rw[hc.1,q1,q2],a3⟩⟩
     ·cases hd:(x.deep && !x.fz) with
      |true=>exact .inr ((d1 hd).2 be (by simp[hb]))
      |false=>exact .inl (s1' hd be (by simp[hb]))
     ·rw[dE]at hf;rcases hf with hf|hf
      ·obtain⟨n1,l1⟩:=d1 hf;refine⟨(bZ.1 n1).2,λbe hb=>⟨l1 be (by simp[hb]),?_⟩⟩;rcases o1 be (by simp[hb]) with h|h
       ·rw[h];simp
       ·simp[h]at hf
      ·have:G=[]:=a2.plain (q5 hf);subst this;simp
   ·cases he
  ·cases he
 |_=>simp[mN]at he
theorem Dy{α:Type}(l:List (Nat×α))(r:Nat):po (po l r) r=po l r:=by simp[po,lE]
theorem jE(s:St)(r:Nat)(x:Row):(s.cM r).newRow r x=s.newRow r x:=by
 simp[St.newRow,St.setRow,St.cM,St.kill,Dy]
theorem ab5(hi:Inv γ h0 io w0 s f w){T E:TypeId}{k by_:Nat}{fl:Bool}{x y:Operand}{a b:KX}{d:Nat}{i:TypeInfo}{z:Value}(hU:P.underlying T=some (.slice E))(hI:P.info? E=some i)(hz:i.zero=some z)(mH:i.size=k)(XJ:i.bytes=by_)(Ya:z.cells.size=k)(tE:0 < k)
  (hx:jl N x a=true) (hy:jl N y b=true) (he:kc cf mf s (some d) (.app k by_ fl a b)=some s') (h:∀γ' f' w',Inv γ' h0 io w0 s' f' w'->Tr (some d) (dW s (some d) (.app k by_ fl a b)) γ w γ' w' f f'->K f' w') :
  ri P N ⟨some d,.call {callee:=.builtin .append,args:=#[x,y],argTypes:=#[T,T] },ty,pos,aft,gd⟩ f w K:=by
 have ql:=bH hi hx;have XY:=bH hi hy;simp only[kc]at he
 split at he
 ·cases he
 ·rename_i es dp s1 QX;obtain⟨pf,G2,news,i1,r2,e1,hk2,hf2,hu⟩:=Jp hi XY QX;have Ui:news.length=es.length * k:=eD.length es r2 hk2;have vR:=r2.qQ;have lQ:∀{v' w'},(Builtin.append_ #[T,T] ty #[(fr f N).eval x,(fr f N).eval y]).run P w=.ok v' w'->(execOp (fr f N).eval ⟨some d,.call {callee:=.builtin .append,args:=#[x,y],argTypes:=#[T,T] },ty,pos,aft,gd⟩).run P w=.ok (.value v') w':=by
   intro v' w' hr;simp[execOp,resolve,invoke,builtin,hr]
  split at he
  ·
   rename_i k' sO Jd;rw[Jd]at ql;simp only[CR]at ql
   split at he
   ·rename_i hc;obtain⟨rfl,rfl,c3,c4⟩:=hc;simp only[aa]at he;subst he;obtain⟨v',w',hr,yy⟩:=FT (P:=P) (w:=w) (ty:=ty) (k:=k') (by_:=by_) hU hI hz mH XJ Ya tE (v:=(fr f N).eval x) (n:=0) (xs:=[]) (by simp) (.inl ⟨ql.1,rfl⟩) (u:=(fr f N).eval y) (m:=es.length) Ui hu vR (by omega) (by simpa using c3);refine sn (lQ hr) ?_;rcases yy with ⟨h1,rfl,rfl⟩|⟨g,cap,T',cur,h1,_⟩|⟨cap,cs,rfl,h2,h3,h4,h5,h6,h7,h8⟩
    ·have vQ:es=[]:=bT h1;subst vQ;have hR:ni pf.h w' ⟨[],k',sO,dp,true,false⟩ ((fr f N).eval x) []:=⟨none,0,0,ql.1,rfl,aj _,by simp[maxLen],tE,λ_ h=>by simp at h,λ_=>ja,.inl ⟨rfl,rfl,rfl⟩⟩
     obtain⟨γ',j1,j2,j3,j4,_⟩:=i1.rD (r:=d) hR (by simp) (λ_ h=>by simp at h);exact h γ' _ w' (j1.put d (.ref d) _ (by simp only[CR,j2];exact⟨trivial,none,0,0,ql.1⟩)) ⟨sG.refl _ _ _,λx _=>by rw[j3,e1.β],λg=>by rw[j4];exact e1.h g,.put⟩
    ·rw[ql.1]at h1;cases h1
    ·simp only[bo,ak]at h2 h8 ⊢;obtain⟨γ',j1,j2,j3,j4⟩:=i1.newRow h5 h6 (n:=es.length) (c:=cap) h4 r2 h8 rfl h2 h3 h7 tE hk2 hf2 e1 d;exact h γ' _ w' (j1.put d (.ref d) _ (by simp only[CR,j2];exact⟨trivial,_,_,_,rfl⟩)) ⟨jS hi h5 _,λx _=>by rw[j3,e1.β],λg=>az (e1.h g) (j4 g),.put⟩
   ·cases he
  ·rename_i r Jd;rw[Jd]at ql;simp only[CR]at ql
   split at he
   ·rename_i row hl
    split at he
    ·rename_i hc;obtain⟨rfl,rfl,qV,c3,c4⟩:=hc;simp only[aa]at he;subst he;obtain⟨lN,A,n,c,i2,b2,yi,n6,o2,l2,q1,q2,q3,q4,q5,q6,q7,q8⟩:=i1.tf hl;rw[e1.sl]at q1;have oc:(fr f N).eval x=.slice A n c:=ql.1.trans q1;have hrX:r∈dW s (some d) (.app row.k by_ row.fl a b):=by simp[dW,Jd,rowsOf]
     have Ar:∀e∈row.es++es,e.length=row.k:=λe he=>by
      rcases aL.1 he with he|he
      ·exact q6 e he
      ·exact hk2 e he
     have Ub:row.fl=true->flat (row.es++es):=λhf e he=>by
      rcases aL.1 he with he|he
      ·exact q7 hf e he
      ·exact hf2 hf e he
     have UT:∀g,B_ pf w g->B_ lN w g:=λg hg=>⟨by rw[o2 _ (by rw[hg.1];simp)];exact hg.1,by rw[n6];exact hg.2.1,hg.2.2⟩
     rcases q8 with ⟨rfl,rfl⟩|⟨g,o,xs,G,rfl,a2,a3,a4,a5,a6,a7,a8,a9,sI,Tm,a12⟩
     ·
      have As:n=0:=by omega
      subst As;have hre:row.es=[]:=bT q2.symm;obtain⟨v',w',hr,yy⟩:=FT (P:=P) (w:=w) (ty:=ty) (k:=row.k) (by_:=by_) hU hI hz mH XJ Ya tE (v:=(fr f N).eval x) (n:=0) (xs:=[]) (by simp) (.inl ⟨oc,rfl⟩) (u:=(fr f N).eval y) (m:=es.length) Ui hu vR (by omega) (by rw[hre]at c3;simpa using c3);refine sn (lQ hr) ?_;rcases yy with ⟨h1,rfl,rfl⟩|⟨g,cap,T',cur,h1,_⟩|⟨cap,cs,rfl,h2,h3,h4,h5,h6,h7,h8⟩
      ·have vQ:es=[]:=bT h1;subst vQ;have hR:ni lN.h w' {row with es:=row.es++[],deep:=row.deep && dp } ((fr f N).eval x) []:=⟨none,0,0,oc,by simp[hre],aj _,by simp[maxLen],q5,Ar,Ub,.inl ⟨rfl,rfl,rfl⟩⟩
       obtain⟨γ',j1,j2,j3,j4,_⟩:=i2.rD (r:=r) hR (by simp) (λ_ h=>by simp at h);rw[jE]at j1;exact h γ' _ w' (j1.put d (.ref r) _ (by simp only[CR,j2];exact⟨trivial,none,0,0,oc⟩)) ⟨sG.refl _ _ _,λx _=>by rw[j3,b2,e1.β],λg=>by rw[j4,n6];exact e1.h g,.put⟩
      ·rw[oc]at h1;cases h1
      ·simp only[bo,ak]at h2 h8 ⊢;have i3:=i2.GP h5;have gF:gz w' w.heap.size 0 news:=by
        intro j u hu;rw[bo,h6.cell];rw[<- h8,dt]at hu
        split at hu
        ·exact hu
        ·cases hu
       have ic:=eD.lt es r2;obtain⟨γ',j1,j2,j3,j4,_⟩:=i3.rK (r:=r) (x:={row with es:=row.es++es,deep:=row.deep && dp }) (n:=es.length) (c:=cap) (g:=w.heap.size) (o:=0) (by simp[hre]) h2 h3 q5 Ar Ub (by omega) (.inr (i2.qG (aj _))) (.inl hi.size) ⟨by omega,h5.KQ _ (aj _)⟩ (by simp only[hre,ak];exact r2.GP h5) gF (by rw[i2.eM _ (aj _)];omega) (λ_=>i2.eM _ (aj _)) (λ_=>⟨rfl,E,cs,h6,h7⟩)
        (λbe hb=>by
         rcases e1.some_ be hb with h9|h9
         ·exact .inl (by rw[n6];exact h9)
         ·have:=UT _ h9;exact .inr ⟨⟨this.1,this.2.1,(jS hi h5 (λ_=>False)).eV _ this.2.2⟩,by have:=ic be hb;omega⟩)
        (λhd=>by
         have Wc:dp=true:=by
          have hd':(row.deep && dp)=true:=hd;simp at hd';exact hd'.2
         obtain⟨n1,l1⟩:=e1.deep Wc;refine⟨bZ.2 ⟨λhm=>?_,n1⟩,λbe hb=>?_⟩
         ·obtain⟨be,hb,e⟩:=bQ.1 hm;have:=ic be hb;omega
         ·have:=UT _ (l1 be hb).1;exact⟨this.1,this.2.1,(jS hi h5 (λ_=>False)).eV _ this.2.2⟩)
       rw[jE]at j1;exact h γ' _ w' (j1.put d (.ref r) _ (by simp only[CR,j2];exact⟨trivial,_,_,_,rfl⟩)) ⟨jS hi h5 _,λx _=>by rw[j3,b2,e1.β],λg=>by have:=j4 g;rw[n6]at this;exact az (e1.h g) this,.put⟩
     ·obtain⟨rfl,T',vs,hB,HN⟩:=sI qV;have Up:xs.length=n * row.k:=by rw[eD.length _ a6 q6,q2]
      have Wq:vs.take (n * row.k)=xs:=by
       rw[<- Up]
       apply ed
       intro j;rw[dt];by_cases hj:j < xs.length
       ·rw[if_pos hj];have h7:=a7 j xs[j] (by simp[hj]);rw[bo,hB.cell]at h7;rw[h7];simp[hj]
       ·rw[if_neg hj,jN (by omega)]
      have ais:=eD.lt _ a6;have abo:=eD.lt _ r2;obtain⟨v',w',hr,yy⟩:=FT (P:=P) (w:=w) (ty:=ty) (k:=row.k) (by_:=by_) hU hI hz mH XJ Ya tE (v:=(fr f N).eval x) (n:=n) (xs:=xs) Up (.inr ⟨g,c,T',vs,oc,hB,q3,q4,HN,Wq⟩) (u:=(fr f N).eval y) (m:=es.length) Ui hu vR (by omega) (by rw[q2];exact c3);have QZ:γ.ω g=.row r:=by
       rcases e1.own g with h|h|h
       ·rw[<- h];exact a3
       ·rw[a3]at h;cases h
       ·rw[a3]at h;cases h
      have hrE:eD w (row.es++es) (xs++news) (G++G2):=eD.append _ a6 r2;have IH:∀be∈G++G2,be.2<=lN.h be.1\/(B_ lN w be.1/\be.1≠g):=by
       intro be hb;rcases aL.1 hb with hb|hb
       ·rw[n6];exact Tm be hb
       ·rcases e1.some_ be hb with h9|h9
        ·exact .inl (by rw[n6];exact h9)
        ·exact .inr ⟨UT _ h9,λe=>by have:=h9.1;rw[e,a3]at this;cases this⟩
      have CW:(row.deep && dp)=true->(g::(G++G2).map bG).Nodup/\∀be∈G++G2,B_ lN w be.1:=by
       intro hd;rw[ab]at hd;obtain⟨n1,l1⟩:=e1.deep hd.2;obtain⟨n2,Uz⟩:=a12 hd.1;refine⟨?_,λbe hb=>?_⟩
       ·rw[dc,<- ai,bj];refine⟨n2,n1,?_⟩;intro y hy y' NH e;subst e;obtain⟨TG,yv,e8⟩:=bQ.1 NH;have u2:=(l1 TG yv).1.1;rcases ay.1 hy with rfl|hy
        ·rw[e8,a3]at u2;cases u2
        ·obtain⟨be,hb,rfl⟩:=bQ.1 hy;rw[e8,(Uz be hb).2]at u2;cases u2
       ·rcases aL.1 hb with hb|hb
        ·exact (Uz be hb).1
        ·exact UT _ (l1 be hb).1
      refine sn (lQ hr) ?_;rcases yy with ⟨h1,rfl,rfl⟩|⟨g',cap,GK,cur,h1,h2,h3,h4,h5,h6,h7,rfl⟩|⟨cap,cs,rfl,h2,h3,h4,h5,h6,h7,h8⟩
      ·have vQ:es=[]:=bT h1;subst vQ;simp only[eD]at r2;obtain⟨rfl,rfl⟩:=r2;simp only[aD]at hrE IH CW Ar Ub;obtain⟨γ',j1,j2,j3,j4,_⟩:=i2.rK (r:=r) (x:={row with es:=row.es++[],deep:=row.deep && dp }) (n:=n) (c:=c) (g:=g) (o:=0) (by simp[q2]) q3 q4 q5 (by simpa using Ar) (by simpa using Ub) a2 (.inl a4) (i2.own g (by rw[a4];simp)).2 a5 (by simpa using hrE) a7 (by rw[n6];exact a8) (λhf=>by rw[n6];exact a9 hf) (λ_=>⟨rfl,T',vs,hB,HN⟩) IH CW;rw[jE]at j1;exact h γ' _ w' (j1.put d (.ref r) _ (by simp only[CR,j2,oc];exact⟨trivial,_,_,_,rfl⟩)) ⟨sG.refl _ _ _,λx _=>by rw[j3,b2,e1.β],λg=>by have:=j4 g;rw[n6]at this;exact az (e1.h g) this,.put⟩
      ·rw[oc]at h1;simp only[Value.slice.injEq,aa,Addr.mk.injEq,and_true]at h1;obtain⟨rfl,_,rfl⟩:=h1;subst h3;have LN:cur=vs:=by
        unfold kX at h2 hB;rw[hB]at h2;simp only[aa,Obj.cells.injEq,and_true]at h2;have:=h2.1
        simpa using this.symm
       subst LN;have lj:=Tj.gk w g (cZ cur (n * row.k) news).toArray GK;have wH:n * row.k+news.length<=cur.length:=by rw[Ui,HN,<- uL];exact er _ h4
       have JU:∀j,j < n * row.k->(gk w g (.cells (cZ cur (n * row.k) news).toArray GK (0,0))).cell? ⟨g,j,none⟩=w.cell? ⟨g,j,none⟩:=by
        intro j hj;rw[(hB.kz GK (cZ cur (n * row.k) news)).cell,hB.cell];unfold cZ;rw[bh,cl (by simp;omega),dt,if_pos hj]
       have i3:=i2.M6 (l9 i2 lj (M:=λo=>o=.dd) a4 (λj hj=>JU j (by rw[n6]at hj;omega))) (by simp) (λb hb=>by cases hb) (λr hr=>by cases hr);have mP:sG γ (λo=>∃i∈dW s (some d) (.app row.k by_ row.fl a b),o=.box i\/o=.row i) w _:=l9 hi lj ⟨r,hrX,.inr QZ⟩ (λj hj=>JU j (by have:=e1.h g;omega));have agJ:eD (gk w g (.cells (cZ cur (n * row.k) news).toArray GK (0,0))) (row.es++es) (xs++news) (G++G2):=by
        refine hrE.cG _ λbe hb j hj=>?_;by_cases h8:be.1=g
        ·rw[h8];rcases IH be hb with h9|h9
         ·rw[h8,n6]at h9;exact JU j (by omega)
         ·exact absurd h8 h9.2
        ·exact World.cell?_of_block (w:=w) (lj.block _ h8)
       have gF:gz (gk w g (.cells (cZ cur (n * row.k) news).toArray GK (0,0))) g 0 (xs++news):=by
        have h9:=(hB.kz GK (cZ cur (n * row.k) news)).J9;intro j u hu;refine h9 j u ?_;have e5:cZ cur (n * row.k) news=(xs++news)++cur.drop (n * row.k+news.length):=by unfold cZ;rw[Wq]
        rw[e5,cl (aI.1 hu).1];exact hu
       have IT:∀y,mM w y->mM (gk w g (.cells (cZ cur (n * row.k) news).toArray GK (0,0))) y:=mP.eV;obtain⟨γ',j1,j2,j3,j4,_⟩:=i3.rK (r:=r) (x:={row with es:=row.es++es,deep:=row.deep && dp }) (n:=n+es.length) (c:=c) (g:=g) (o:=0) (by simp[q2]) h4 q4 q5 Ar Ub (by rw[fD];exact a2) (.inl a4) (i2.own g (by rw[a4];simp)).2 ⟨by rw[fD];omega,lj.fz⟩ agJ gF (by rw[n6];exact az a8 (Nat.add_le_add_left (er row.k (show n<=n+es.length by omega)) 0)) (λhf=>by rw[n6];exact a9 hf) (λ_=>⟨rfl,GK,_,hB.kz GK _,by rw[uC wH];exact HN⟩)
        (λbe hb=>by
         rcases IH be hb with h9|h9
         ·exact .inl h9
         ·exact .inr ⟨⟨h9.1.1,h9.1.2.1,IT _ h9.1.2.2⟩,h9.2⟩)
        (λhd=>⟨(CW hd).1,λbe hb=>by have:=(CW hd).2 be hb;exact⟨this.1,this.2.1,IT _ this.2.2⟩⟩)
       rw[jE]at j1;exact h γ' _ _ (j1.put d (.ref r) _ (by simp only[CR,j2];exact⟨trivial,_,_,_,rfl⟩)) ⟨mP,λx _=>by rw[j3,b2,e1.β],λg=>by have:=j4 g;rw[n6]at this;exact az (e1.h g) this,.put⟩
      ·have i3:=i2.GP h5;have gF:gz w' w.heap.size 0 (xs++news):=by
        intro j u hu;rw[bo,h6.cell];rw[<- h8,dt]at hu
        split at hu
        ·exact hu
        ·cases hu
       have ic:∀be∈G++G2,be.1 < w.heap.size:=eD.lt _ hrE;have IT:=(jS hi h5 (λ_=>False)).eV;obtain⟨γ',j1,j2,j3,j4,_⟩:=i3.rK (r:=r) (x:={row with es:=row.es++es,deep:=row.deep && dp }) (n:=n+es.length) (c:=cap) (g:=w.heap.size) (o:=0) (by simp[q2]) h2 h3 q5 Ar Ub (by omega) (.inr (i2.qG (aj _))) (.inl hi.size) ⟨by omega,h5.KQ _ (aj _)⟩ (hrE.GP h5) gF (by rw[i2.eM _ (aj _)];omega) (λ_=>i2.eM _ (aj _)) (λ_=>⟨rfl,E,cs,h6,h7⟩)
        (λbe hb=>by
         rcases IH be hb with h9|h9
         ·exact .inl h9
         ·exact .inr ⟨⟨h9.1.1,h9.1.2.1,IT _ h9.1.2.2⟩,by have:=ic be hb;omega⟩)
        (λhd=>by
         refine⟨bZ.2 ⟨λhm=>?_,(bZ.1 (CW hd).1).2⟩,λbe hb=>by have:=(CW hd).2 be hb;exact⟨this.1,this.2.1,IT _ this.2.2⟩⟩;obtain⟨be,hb,e⟩:=bQ.1 hm;have:=ic be hb;omega)
       rw[jE]at j1;exact h γ' _ w' (j1.put d (.ref r) _ (by simp only[CR,j2];exact⟨trivial,_,_,_,rfl⟩)) ⟨jS hi h5 _,λx _=>by rw[j3,b2,e1.β],λg=>by have:=j4 g;rw[n6]at this;exact az (e1.h g) this,.put⟩
    ·cases he
   ·cases he
  ·cases he
theorem ab8(hi:Inv γ h0 io w0 s f w){T E:TypeId}{k:Nat}{x:Operand}{lo oX:Option Operand}{a:KX}{b c:Option KX}{d:Nat}(hU:P.underlying T=some (.slice E))(hz:mE P E=some k)
  (hx:jl N x a=true) (Jb:yB N lo b=true) (Wf:yB N oX c=true) (he:kc cf mf s (some d) (.cut k a b c)=some s') (h:∀γ' f' w',Inv γ' h0 io w0 s' f' w'->Tr (some d) (dW s (some d) (.cut k a b c)) γ w γ' w' f f'->K f' w') :
  ri P N ⟨some d,.slice T x lo oX none,ty,pos,aft,gd⟩ f w K:=by
 have ql:=bH hi hx;simp only[kc]at he
 split at he
 ·rename_i k' fl Jd;rw[Jd]at ql;simp only[CR]at ql
  split at he
  ·rename_i l u hl hu
   split at he
   ·rename_i hc;obtain⟨rfl,rfl,rfl⟩:=hc;simp only[aa]at he;subst he;have hr:=B2 (w:=w) (dst:=some d) (ty:=ty) (pos:=pos) (aft:=aft) (gd:=gd) hU (λw=>run_sizeOf hz w) ql.1 (mA hi Jb hl) (mA hi Wf hu) (aj _) (aj _);refine sn hr ?_;exact h γ _ w (hi.put d (.nil k' fl) _ (by simp only[CR];simp[ql.2])) ⟨sG.refl _ _ _,λ_ _=>rfl,λ_=>aj _,.put⟩
   ·cases he
  ·cases he
 ·rename_i r Jd;rw[Jd]at ql;simp only[CR]at ql
  split at he
  ·rename_i row hl
   split at he
   ·rename_i l u abn abj
    split at he
    ·rename_i hc;obtain⟨rfl,c1,c2,Gw⟩:=hc;simp only[aa]at he;subst he;obtain⟨lN,A,n,c,i2,b2,yi,n6,o2,l2,q1,q2,q3,q4,q5,q6,q7,q8⟩:=hi.tf hl;have oc:(fr f N).eval x=.slice A n c:=ql.1.trans q1;have hr:=B2 (w:=w) (dst:=some d) (ty:=ty) (pos:=pos) (aft:=aft) (gd:=gd) hU (λw=>run_sizeOf hz w) oc (mA hi Jb abn) (by rw[q2];exact mA hi Wf abj) c1 (by omega);have hlen:((row.es.take u).drop l).length=u - l:=by simp;omega
     have tq:∀e∈(row.es.take u).drop l,e∈row.es:=λe he=>bM (iz he);have Ar:∀e∈(row.es.take u).drop l,e.length=row.k:=λe he=>q6 e (tq e he);have Ub:row.fl=true->flat ((row.es.take u).drop l):=λhf e he=>q7 hf e (tq e he);refine sn hr ?_;rcases q8 with ⟨rfl,rfl⟩|⟨g,o,xs,G,rfl,a2,a3,a4,a5,a6,a7,a8,a9,sI,Tm,a12⟩
     ·have hu0:u=0:=by omega
      subst hu0;have JX:l=0:=by omega
      subst JX;have hR:ni lN.h w {row with es:=(row.es.take 0).drop 0,app:=row.app && b.isNone } (.slice none 0 0) []:=⟨none,0,0,rfl,by simp,aj _,by simp[maxLen],q5,Ar,Ub,.inl ⟨rfl,rfl,rfl⟩⟩
      obtain⟨γ',j1,j2,j3,j4,_⟩:=i2.rD (r:=r) hR (by simp) (λ_ h=>by simp at h);rw[jE]at j1;exact h γ' _ w (j1.put d (.ref r) _ (by simp only[CR,j2];simp)) ⟨sG.refl _ _ _,λx _=>by rw[j3,b2],λg=>by rw[j4,n6];exact aj _,.put⟩
     ·rw[<- a_ u row.es]at a6;obtain⟨v1,v2,F1,F2,rfl,rfl,k1,_⟩:=eD.fv _ a6;rw[<- a_ l (row.es.take u)]at k1;obtain⟨u1,u2,G1,G2,rfl,rfl,m1,m2⟩:=eD.fv _ k1;have X8:u1.length=l * row.k:=by
       rw[eD.length _ m1 (λe he=>q6 e (bM (bM he)))];simp only[aY];rw[dU (by rw[dU (by omega)];exact c1)]
      have gF:gz w g (if c=l then o else o+l * row.k) u2:=by
       intro j y hy;split
       ·rename_i rk;have:u2.length=0:=by
         rw[eD.length _ m2 Ar,hlen,show u - l=0 by omega,oQ]
        have:=(aI.1 hy).1;omega
       ·have:=a7 (l * row.k+j) y (by
         rw[bh,cr (by omega),X8,lK,cl (aI.1 hy).1];exact hy)
        rw[show o+(l * row.k+j)=o+l * row.k+j by omega]at this;exact this
      have tW:∀be∈G2,be∈G1++G2++F2:=λbe hb=>by simp[hb]
      obtain⟨γ',j1,j2,j3,j4,_⟩:=i2.rK (r:=r) (x:={row with es:=(row.es.take u).drop l,app:=row.app && b.isNone }) (n:=u - l) (c:=c - l) (g:=g) (o:=if c=l then o else o+l * row.k) hlen.symm (by omega) (by omega) q5 Ar Ub a2 (.inl a4) (i2.own g (by rw[a4];simp)).2 a5 m2 gF (by rw[n6,a9 Gw];omega) (λ_=>by rw[n6];exact a9 Gw)
       (λqV=>by
        simp only[ab,pw]at qV;have hb0:l=0:=by
         have:=abn;rw[qV.2]at this;simp only[pO,aa]at this;exact this.symm
        obtain⟨p1,p2⟩:=sI qV.1;subst hb0;refine⟨by simp[p1],?_⟩
        simpa using p2)
       (λbe hb=>by rw[n6];exact Tm be (tW be hb))
       (λhd=>by
        obtain⟨d1,d2⟩:=a12 hd;refine⟨?_,λbe hb=>(d2 be (tW be hb)).1⟩;rw[bZ]at d1 ⊢;refine⟨λhm=>d1.1 ?_,?_⟩
        ·obtain⟨be,hb,e⟩:=bQ.1 hm;exact bQ.2 ⟨be,tW be hb,e⟩
        ·have:=d1.2;rw[dc,dc,bj,bj]at this;exact this.1.2.1)
      rw[jE]at j1;have hv:(Value.slice (if c=l then some ⟨g,o,none⟩ else (some (⟨g,o,none⟩:Addr)).map (λz=>z.add (l * row.k))) (u - l) (c - l))=.slice (some ⟨g,if c=l then o else o+l * row.k,none⟩) (u - l) (c - l):=by
       split<;>simp[nH]
      rw[hv];exact h γ' _ w (j1.put d (.ref r) _ (by simp only[CR,j2];exact⟨trivial,_,_,_,rfl⟩)) ⟨sG.refl _ _ _,λx _=>by rw[j3,b2],λg=>by have:=j4 g;rw[n6]at this;exact this,.put⟩
    ·cases he
   ·cases he
  ·cases he
 ·cases he
end
end
section
open Go.RowKit
def CF(h:Nat->Nat)(w:World):RV->Value->List Nat->Prop
 | .d x,v,F=>F=[]/\∃G,Rp w x v G/\dm h G
 | .row r,v,F=>ni h w r v F/\F.Nodup
def gA(h:Nat->Nat)(w:World):List RV->List Value->List Nat->Prop
 |[],vs,F=>vs=[]/\F=[]
 |r::rs,vs,F=>∃v eb F1 F2,vs=v::eb/\F=F1++F2/\CF h w r v F1/\gA h w rs eb F2
def AR(h:Nat->Nat)(w:World):A->Value->List Nat->Prop
 | .val ag cs,v,F=>∃vs,gA h w cs vs F/\(ag=true->v=.agg vs.toArray)/\(ag=false->vs=[v])
 | .box cs,v,F=>∃g T vs F',v=.pointer (some ⟨g,0,none⟩)/\kX w g T vs/\h g=0/\F=g::F'/\gA h w cs vs F'
def kG(h:Nat->Nat)(w:World):List A->List Value->List Nat->Prop
 |[],vs,F=>vs=[]/\F=[]
 |a::as,vs,F=>∃v eb F1 F2,vs=v::eb/\F=F1++F2/\AR h w a v F1/\kG h w as eb F2
structure xL (h:Nat->Nat) (F:List Nat) (w w':World) (h':Nat->Nat):Prop where
 os:w'.os=w.os
 tape:w'.tape=w.tape
 output:w'.output=w.output
 size:w.heap.size<=w'.heap.size
 block:∀g,g < w.heap.size->g∉F->w'.heap[g]?=w.heap[g]?
 cell:∀g j,g < w.heap.size->j < h g->w'.cell? ⟨g,j,none⟩=w.cell? ⟨g,j,none⟩
 mono:∀g,g < w.heap.size->h g<=h' g
 hold:∀g,g < w.heap.size->g∉F->h' g=h g
 eM:∀g,w'.heap.size<=g->h' g=0
 eV:∀g,mM w g->mM w' g
def fS:List A->List Value->List Value
 | .box _::as,v::vs=>v::fS as vs
 | .val _ _::as,_::vs=>fS as vs
 |_,_=>[]
def TE(us:List Value)(v:Value):Prop:=us=[v]\/(us.length≠1/\v=.tuple us.toArray)
def zt:String:= "internal/strconv.uint64pow10"
def OO(P:Program)(w:World)(F:List Nat):Prop:=∀g,P.globalNamed zt=some g->g < w.heap.size/\g∉F/\Lib.TabIs P w zt .u64 Lib.pow10Tab
theorem OO.step{P:Program}{w w':World}{F F':List Nat}(h:OO P w F)(hs:w.heap.size<=w'.heap.size)(hfr:∀g,g < w.heap.size->g∉F->w'.heap[g]?=w.heap[g]?)(hF:∀g∈F',w.heap.size<=g\/g∈F):OO P w' F':=by
 intro g hg;obtain⟨a,b,c⟩:=h g hg;refine⟨by omega,λhm=>?_,?_⟩
 ·rcases hF g hm with h1|h1
  ·omega
  ·exact b h1
 ·unfold Lib.TabIs World.var? at c ⊢;rw[hg]at c ⊢;simp only[cO]at c ⊢;rw[hfr g a b];exact c
def O7(P:Program)(g:FuncId)(as rs outs:List A)(w:World)(h:Nat->Nat)(vs:List Value)(F:List Nat):Prop:=
 kG h w as vs F->F.Nodup->(∀g∈F,g < w.heap.size)->(∀g,w.heap.size<=g->h g=0)->
  Calls P g vs.toArray w λe w'=>∃v us F1 F2 h',e=.returned v/\TE us v/\kG h' w' rs us F1/\kG h' w' outs (fS as vs) F2/\(F1++F2).Nodup/\(∀g∈F1++F2,(w.heap.size<=g\/g∈F)/\g < w'.heap.size)/\xL h F w w' h'
def mL(P:Program)(g:FuncId)(as rs outs:List A):Prop:=
 ∀(w:World) (h:Nat->Nat) (vs:List Value) (F:List Nat),OO P w F->O7 P g as rs outs w h vs F
def tI(w0:World)(io:List Nat)(P:Program)(g:FuncId)(as rs outs:List A):Prop:=
 ∀(w:World) (h:Nat->Nat) (vs:List Value) (F:List Nat),w0.heap.size<=w.heap.size->(∀g,g < w0.heap.size->g∉io->w.heap[g]?=w0.heap[g]?)->(∀g∈F,w0.heap.size<=g\/g∈io)->O7 P g as rs outs w h vs F
theorem mL.at_{P:Program}{g:FuncId}{as rs outs:List A}{w0:World}{io:List Nat}(h:mL P g as rs outs)(hL:OO P w0 io):tI w0 io P g as rs outs:=
 λw k vs F h1 h2 h3=>h w k vs F (hL.step h1 h2 h3)
def fO(w:World):List D->List Value->List Fp->Prop
 |[],vs,Fs=>vs=[]/\Fs=[]
 |d::ds,vs,Fs=>∃v eb F Ti,vs=v::eb/\Fs=F::Ti/\Rp w d v F/\fO w ds eb Ti
def O9(P:Program)(F0:FuncId)(ag:Bool)(ds:List D)(q:Int)(ga:List D)(q':Int)(w:World)(h:Nat->Nat)(v:Value)(vs:List Value)(Fs:List Fp):Prop:=
 fO w ds vs Fs->(ag=true->v=.agg vs.toArray)->(ag=false->vs=[v])->IntKind.i64.wrap q=q->(Fs.flatten.map bG).Nodup->(∀G∈Fs,∀be∈G,h be.1=0/\mM w be.1)->(∀g,w.heap.size<=g->h g=0)->
  Calls P F0 #[v,.int .i64 q] w λe w'=>e=.returned (.int .i64 q')/\IntKind.i64.wrap q'=q'/\fO w' ga vs Fs/\ga.map D.plain=ds.map D.plain/\xL h (Fs.flatten.map bG) w w' h
def zz(P:Program)(F0:FuncId)(ag:Bool)(ds:List D)(q:Int)(ga:List D)(q':Int):Prop:=
 ∀(w:World) (h:Nat->Nat) (v:Value) (vs:List Value) (Fs:List Fp),OO P w (Fs.flatten.map bG)->O9 P F0 ag ds q ga q' w h v vs Fs
def oR(w0:World)(io:List Nat)(P:Program)(F0:FuncId)(ag:Bool)(ds:List D)(q:Int)(ga:List D)(q':Int):Prop:=
 ∀(w:World) (h:Nat->Nat) (v:Value) (vs:List Value) (Fs:List Fp),w0.heap.size<=w.heap.size->(∀g,g < w0.heap.size->g∉io->w.heap[g]?=w0.heap[g]?)->(∀g∈Fs.flatten.map bG,w0.heap.size<=g\/g∈io)->O9 P F0 ag ds q ga q' w h v vs Fs
theorem zz.at_{P:Program}{F0:FuncId}{ag:Bool}{ds ga:List D}{q q':Int}{w0:World}{io:List Nat}(h:zz P F0 ag ds q ga q')(hL:OO P w0 io):oR w0 io P F0 ag ds q ga q':=
 λw k v vs Fs h1 h2 h3=>h w k v vs Fs (hL.step h1 h2 h3)
theorem Ks{d j i:Nat}(h:j≠i):tw d j≠tw d i:=by unfold tw;omega
section
variable {h0:Nat->Nat} {io:List Nat} {w0:World} {f:Fm} {w:World}
theorem Inv.Ve{γ:Gh}{s:St}(hi:Inv γ h0 io w0 s f w)(d:Nat)(c:C)(hc:CR γ w c (f d)):Inv γ h0 io w0 (s.put (some d) c) f w:=
 {hi with
  sl:=λe c' h=>by
   simp only[St.put,look]at h;by_cases he:d=e
   ·subst he;simp at h;subst h;exact hc
   ·rw[if_neg he]at h;exact hi.sl e c' h }
theorem ni.slice{h:Nat->Nat}{x:Row}{v:Value}{F:List Nat}(hr:ni h w x v F):∃A n c,v=.slice A n c:=by
 obtain⟨A,n,c,h1,_⟩:=hr;exact⟨A,n,c,h1⟩
theorem mr{d:Nat}:∀(vs:List RV) {us:List Value} {F:List Nat} (j:Nat) {γ:Gh} {s:St},Inv γ h0 io w0 s f w->gA γ.h w vs us F->F.Nodup->(∀g∈F,(γ.ω g=.free\/γ.ω g=.dd)/\g < w.heap.size/\(w0.heap.size<=g\/g∈io))->
  ∃γ',Inv γ' h0 io w0 (dV d j vs s).2 f w/\dS γ' w (dV d j vs s).1 us/\γ'.β=γ.β/\γ'.h=γ.h/\(∀g,g∉F->γ'.ω g=γ.ω g)/\∀q,(∀i,j<=i->q≠tw d i)->γ'.sl q=γ.sl q
 |[],us,F,j,γ,s,hi,hr,_,_=>by
  simp only[gA]at hr;obtain⟨rfl,rfl⟩:=hr;exact⟨γ,hi,by simp[dV,dS],rfl,rfl,λ_ _=>rfl,λ_ _=>rfl⟩
 | .d x::vs,us,F,j,γ,s,hi,hr,jk,hF=>by
  simp only[gA,CF]at hr;obtain⟨v,eb,F1,F2,rfl,rfl,⟨rfl,G,uK,jV⟩,hr⟩:=hr;obtain⟨γ',i1,c1,b1,h1,o1,s1⟩:=mr vs (j+1) hi hr (by simpa using jk) (by simpa using hF);refine⟨γ',i1,?_,b1,h1,by simpa using o1,λq hq=>s1 q (λi hi=>hq i (by omega))⟩;simp only[dV,dS];exact⟨v,eb,rfl,by simp only[CR];exact⟨G,uK,by rw[h1];exact jV⟩,c1⟩
 | .row x::vs,us,F,j,γ,s,hi,hr,jk,hF=>by
  simp only[gA,CF]at hr;obtain⟨v,eb,F1,F2,rfl,rfl,⟨hR,vR⟩,hr⟩:=hr;rw[bj]at jk;obtain⟨_,JZ,qW⟩:=jk;obtain⟨pf,i1,Vv,b1,h1,o1,q1⟩:=hi.rD (r:=tw d j) hR vR (λg hg=>by
   have:=hF g (by simp[hg]);exact⟨by rcases this.1 with h|h<;>simp[h],this.2⟩)
  obtain⟨lN,i2,c2,b2,h2,o2,s2⟩:=mr vs (j+1) i1 (by rw[h1];exact hr) JZ (λg hg=>by
   have h3:g∉F1:=λh=>qW g h g hg rfl;rw[o1 g h3];exact hF g (by simp[hg]))
  refine⟨lN,i2,?_,b2.trans b1,h2.trans h1,λg hg=>?_,λq hq=>?_⟩
  ·simp only[dV,dS];refine⟨v,eb,rfl,?_,c2⟩;simp only[CR];rw[s2 (tw d j) (λi hi=>Ks (by omega)),Vv];exact⟨rfl,hR.slice⟩
  ·simp only[aL,not_or]at hg;rw[o2 g hg.2,o1 g hg.1]
  ·rw[s2 q (λi hi=>hq i (by omega)),q1 q (hq j (aj _))]
theorem qm{d:Nat}:∀(vs:List RV) {us:List Value} {F:List Nat} (j:Nat) {γ:Gh} {s:St},Inv γ h0 io w0 s f w->gA γ.h w vs us F->F.Nodup->(∀g∈F,(γ.ω g=.free\/γ.ω g=.dd)/\g < w.heap.size/\(w0.heap.size<=g\/g∈io))->
  ∃γ',Inv γ' h0 io w0 (dV d j vs s).2 f w/\(∀lN,lN.h=γ'.h->(∀i,j<=i->i < j+vs.length->lN.sl (tw d i)=γ'.sl (tw d i))->dS lN w (dV d j vs s).1 us)/\γ'.β=γ.β/\γ'.h=γ.h/\(∀g,g∉F->γ'.ω g=γ.ω g)/\∀q,(∀i,j<=i->q≠tw d i)->γ'.sl q=γ.sl q
 |[],us,F,j,γ,s,hi,hr,_,_=>by
  simp only[gA]at hr;obtain⟨rfl,rfl⟩:=hr;exact⟨γ,hi,λ_ _ _=>by simp[dV,dS],rfl,rfl,λ_ _=>rfl,λ_ _=>rfl⟩
 | .d x::vs,us,F,j,γ,s,hi,hr,jk,hF=>by
  simp only[gA,CF]at hr;obtain⟨v,eb,F1,F2,rfl,rfl,⟨rfl,G,uK,jV⟩,hr⟩:=hr;obtain⟨γ',i1,c1,b1,h1,o1,s1⟩:=qm vs (j+1) hi hr (by simpa using jk) (by simpa using hF);refine⟨γ',i1,λlN e1 e2=>?_,b1,h1,by simpa using o1,λq hq=>s1 q (λi hi=>hq i (by omega))⟩;simp only[dV,dS];exact⟨v,eb,rfl,by simp only[CR];exact⟨G,uK,by rw[e1,h1];exact jV⟩,c1 lN e1 (λi h2 h3=>e2 i (by omega) (by simp;omega))⟩
 | .row x::vs,us,F,j,γ,s,hi,hr,jk,hF=>by
  simp only[gA,CF]at hr;obtain⟨v,eb,F1,F2,rfl,rfl,⟨hR,vR⟩,hr⟩:=hr;rw[bj]at jk;obtain⟨_,JZ,qW⟩:=jk;obtain⟨pf,i1,Vv,b1,h1,o1,q1⟩:=hi.rD (r:=tw d j) hR vR (λg hg=>by
   have:=hF g (by simp[hg]);exact⟨by rcases this.1 with h|h<;>simp[h],this.2⟩)
  obtain⟨lN,i2,c2,b2,h2,o2,s2⟩:=qm vs (j+1) i1 (by rw[h1];exact hr) JZ (λg hg=>by
   have h3:g∉F1:=λh=>qW g h g hg rfl;rw[o1 g h3];exact hF g (by simp[hg]))
  refine⟨lN,i2,λMY e1 e2=>?_,b2.trans b1,h2.trans h1,λg hg=>?_,λq hq=>?_⟩
  ·simp only[dV,dS];refine⟨v,eb,rfl,?_,c2 MY e1 (λi h2 h3=>e2 i (by omega) (by simp;omega))⟩;simp only[CR];rw[e2 j (aj _) (by simp),s2 (tw d j) (λi hi=>Ks (by omega)),Vv];exact⟨rfl,hR.slice⟩
  ·simp only[aL,not_or]at hg;rw[o2 g hg.2,o1 g hg.1]
  ·rw[s2 q (λi hi=>hq i (by omega)),q1 q (hq j (aj _))]
theorem gA.length{h:Nat->Nat}:∀{vs:List RV} {us:List Value} {F:List Nat},gA h w vs us F->us.length=vs.length
 |[],_,_,hr=>by simp only[gA]at hr;simp[hr.1]
 |_::_,_,_,hr=>by
  simp only[gA]at hr;obtain⟨v,eb,F1,F2,rfl,rfl,_,hr⟩:=hr;simp[gA.length hr]
theorem wG{γ:Gh}{cs:List C}{v:Value}(h:dS γ w cs [v]):CR γ w (cs.headD .any) v:=by
 cases cs with
 |nil=>simp[dS]at h
 |cons c cs=>
  simp only[dS]at h;obtain⟨v',eb,e,h1,_⟩:=h;simp only[bq]at e;rw[e.1];exact h1
theorem AG{p:Nat}:∀(vs:List RV) (j:Nat) (s:St),C.jd (900+p) (dV (p+500) j vs s).1=(dV (p+500) j vs s).1
 |[],j,s=>by simp[dV,C.jd]
 | .d x::vs,j,s=>by simp only[dV,C.jd,C.kill,AG vs (j+1) s]
 | .row x::vs,j,s=>by
  have h:tw (p+500) j≠900+p:=by unfold tw;omega
  simp only[dV,C.jd,C.kill,AG vs (j+1),if_neg h]
theorem rR:∀(as:List A) {vs:List Value} {F:List Nat} (p:Nat) {γ:Gh} {s:St},Inv γ h0 io w0 s f w->kG γ.h w as vs F->F.Nodup->(∀g∈F,(γ.ω g=.free\/γ.ω g=.dd)/\g < w.heap.size/\(w0.heap.size<=g\/g∈io))->(∀i v,vs[i]?=some v->f (p+i)=v)->
  ∃γ',Inv γ' h0 io w0 (iB p as s) f w/\γ'.h=γ.h/\(∀q,q < p->γ'.β (900+q)=γ.β (900+q))/\∀i cs g,as[i]?=some (.box cs)->vs[i]?=some (.pointer (some ⟨g,0,none⟩))->γ'.β (900+(p+i))=g
 |[],vs,F,p,γ,s,hi,_,_,_,_=>⟨γ,hi,rfl,λ_ _=>rfl,λi cs g h=>by simp at h⟩
 | .val ag cs::as,vs,F,p,γ,s,hi,hr,jk,hF,hf=>by
  simp only[kG,AR]at hr;obtain⟨v,eb,F1,F2,rfl,rfl,⟨us,qX,ha,hb⟩,hr⟩:=hr;rw[bj]at jk;obtain⟨vR,JZ,qW⟩:=jk;obtain⟨pf,i1,c1,b1,h1,o1,_⟩:=mr (d:=p) cs 0 hi qX vR (λg hg=>hF g (by simp[hg]));have hfp:f p=v:=by simpa using hf 0 v rfl
  have i2:Inv pf h0 io w0 (wo p (.val ag cs) s) f w:=by
   refine i1.Ve p _ ?_;cases ag with
   |true=>
    rw[hfp,ha rfl];simp only[if_true,CR];exact⟨us,rfl,c1⟩
   |false=>
    rw[hfp];simp only[au,if_false];rw[hb rfl]at c1;exact wG c1
  obtain⟨lN,i3,h3,p3,x3⟩:=rR as (p+1) i2 (by rw[h1];exact hr) JZ (λg hg=>by
   have h3:g∉F1:=λh=>qW g h g hg rfl;rw[o1 g h3];exact hF g (by simp[hg])) (λi u hu=>by rw[show p+1+i=p+(i+1) from by omega];exact hf (i+1) u (by simpa using hu))
  refine⟨lN,i3,h3.trans h1,λq hq=>by rw[p3 q (by omega),b1],λi iA g hi1 Tt=>?_⟩;cases i with
  |zero=>simp at hi1
  |succ i=>
   have:=x3 i iA g (by simpa using hi1) (by simpa using Tt);rw[show p+(i+1)=p+1+i from by omega];exact this
 | .box cs::as,vs,F,p,γ,s,hi,hr,jk,hF,hf=>by
  simp only[kG,AR]at hr;obtain⟨v,eb,F1,F2,rfl,rfl,⟨g,T,us,F',rfl,hB,yU,rfl,qX⟩,hr⟩:=hr;rw[bj]at jk;obtain⟨vR,JZ,qW⟩:=jk;obtain⟨hg1,XX⟩:=bZ.1 vR;obtain⟨pf,i1,c1,b1,h1,o1,_⟩:=mr (d:=p+500) cs 0 hi qX XX (λg hg=>hF g (by simp[hg]));have hfp:=hf 0 _ rfl;rw[eA]at hfp;have We:=hF g (by simp);obtain⟨lN,i2,j2,k2,l2,m2,w2⟩:=i1.Jo (b:=900+p) hB (by rw[o1 g hg1];exact We.1) We.2.2 (by rw[h1];exact yU) c1;rw[AG]at i2;have i3:Inv lN h0 io w0 (wo p (.box cs) s) f w:=i2.Ve p (.ptr (900+p) 0) (by rw[hfp];simp only[CR,j2]);obtain⟨MY,i4,h4,p4,x4⟩:=rR as (p+1) i3 (by rw[l2,h1];exact hr) JZ (λy hy=>by
   have h3:y∉F':=λh=>qW y (by simp[h]) y hy rfl;have h5:y≠g:=λh=>qW y (by simp[h]) y hy rfl;rw[w2 y h5,o1 y h3];exact hF y (by simp[hy])) (λi u hu=>by rw[show p+1+i=p+(i+1) from by omega];exact hf (i+1) u (by simpa using hu))
  refine⟨MY,i4,h4.trans (l2.trans h1),λq hq=>by rw[p4 q (by omega),k2 _ (by omega),b1],λi iA g' hi1 Tt=>?_⟩;cases i with
  |zero=>
   simp at Tt;rw[p4 _ (by omega),eA,j2,Tt]
  |succ i=>
   have:=x4 i iA g' (by simpa using hi1) (by simpa using Tt);rw[show p+(i+1)=p+1+i from by omega];exact this
theorem xG{γ:Gh}{s:St}(hi:Inv γ h0 io w0 s f w):∀(cs:List C) {vs:List Value} {rs:List RV},dS γ w cs vs->fk (iK s) cs=some rs->
  ∃F,gA γ.h w rs vs F/\(∀g∈F,∃r∈rowsOf cs,γ.ω g=.row r)/\((rowsOf cs).Nodup->F.Nodup)
 |[],vs,rs,hc,hm=>by
  simp only[fk,aa]at hm;subst hm;simp only[dS]at hc;subst hc;exact⟨[],by simp[gA],λ_ h=>by simp at h,λ_=>by simp⟩
 |c::cs,vs,rs,hc,hm=>by
  simp only[dS]at hc;obtain⟨v,eb,rfl,hv,yz⟩:=hc;simp only[fk]at hm
  split at hm
  ·rename_i y hy;simp only[ad]at hm;obtain⟨Cx,hm,rfl⟩:=hm;obtain⟨F,h1,h2,h3⟩:=xG hi cs yz hm;cases c with
   |d x=>
    simp only[iK,aa]at hy;subst hy;simp only[CR]at hv;refine⟨F,?_,by simpa [rowsOf] using h2,by simpa [rowsOf] using h3⟩;simp only[gA,CF];exact⟨v,eb,[],F,rfl,rfl,⟨rfl,hv⟩,h1⟩
   |nil k fl=>
    simp only[iK,aa]at hy;subst hy;simp only[CR]at hv;refine⟨F,?_,by simpa [rowsOf] using h2,by simpa [rowsOf] using h3⟩;simp only[gA,CF];exact⟨v,eb,[],F,rfl,rfl,⟨⟨none,0,0,hv.1,rfl,aj _,by simp[maxLen],hv.2,λ_ h=>by simp at h,λ_=>ja,.inl ⟨rfl,rfl,rfl⟩⟩,by simp⟩,h1⟩
   |ref r=>
    simp only[iK,ad]at hy;obtain⟨x,hx,rfl⟩:=hy;simp only[CR]at hv;obtain⟨Fr,hR,jk,qP⟩:=hi.rw r x hx;refine⟨Fr++F,?_,λg hg=>?_,λhn=>?_⟩
    ·simp only[gA,CF];exact⟨v,eb,Fr,F,rfl,rfl,⟨by rw[hv.1];exact hR,jk⟩,h1⟩
    ·rcases aL.1 hg with hg|hg
     ·exact⟨r,by simp[rowsOf],qP g hg⟩
     ·obtain⟨q,hq,Ul⟩:=h2 g hg;exact⟨q,by simp[rowsOf,hq],Ul⟩
    ·simp only[rowsOf,bZ]at hn;rw[bj];refine⟨jk,h3 hn.2,?_⟩;intro a ha b hb e;subst e;obtain⟨q,hq,Ul⟩:=h2 a hb;rw[qP a ha]at Ul;cases Ul;exact hn.1 hq
   |_=>simp[iK]at hy
  ·cases hm
end
end
section
open Go.RowKit
section
variable {h0:Nat->Nat} {io:List Nat} {w0:World} {f:Fm} {w:World}
theorem yh(s:St)(r:Nat)(x:Row):(s.cM r).setRow r x=s.setRow r x:=by
 simp[St.setRow,St.cM,Dy]
theorem Inv.share1 {γ : Gh} {s : St} (hi : Inv γ h0 io w0 s f w) {r : Nat} {x : Row} (hl : look s.rw r = some x) :
    ∃ γ' G, Inv γ' h0 io w0 (s.setRow r x.share) f w /\ γ'.β = γ.β /\ γ'.sl = γ.sl /\ (∀ g, γ.h g <= γ'.h g) /\ Rp w (.list x.k x.fl x.es) (γ.sl r) G /\ dm γ'.h G /\ ∀ g, γ'.ω g = γ.ω g \/ γ'.ω g = .dd \/ γ'.ω g = .free \/ γ'.ω g = .row r := by
  obtain ⟨lN, A, n, c, i2, b2, yi, n6, o2, l2, q1, q2, q3, q4, q5, q6, q7, q8⟩ := hi.tf hl
  have acw : ∀ g, lN.ω g = γ.ω g \/ lN.ω g = .dd := λg => by
    rcases gq (γ.ω g = .row r) with h | h
    · exact .inr (l2 g h)
    · exact .inl (o2 g h)
  rcases q8 with ⟨rfl, rfl⟩ | ⟨g, o, xs, G, rfl, a2, a3, a4, a5, a6, a7, a8, a9, sI, Tm, a12⟩
  · have hR : ni lN.h w x.share (lN.sl r) [] := ⟨none, n, 0, by rw [yi]; exact q1, q2, q3, q4, q5, q6, q7, .inl ⟨rfl, rfl, rfl⟩⟩
    obtain ⟨γ', h2, h3, h4, h5, h6⟩ := i2.setRow (r := r) hR (by simp) (λ_ h => by simp at h)
    rw [yh] at h2
    refine ⟨γ', [], h2, h4.trans b2, h3.trans yi, λg => by rw [h5, n6]; exact aj _, ?_, λ_ h => by simp at h, λg => ?_⟩
    · simp only [Rp]
      exact ⟨none, n, 0, q1, q2, q3, q4, q7, q5, q6, .inl ⟨by omega, trivial⟩⟩
    · rcases h6 g with h | h
      · rw [h]; rcases acw g with h' | h'
        · exact .inl h'
        · exact .inr (.inl h')
      · exact .inr (.inr (.inr h))
  · have i3 := i2.settle (h' := λy => if y = g then o + n * x.k else lN.h y) (ω' := lN.ω) (λy => by
        split
        · rename_i e; subst e; rw [n6]; exact a8
        · exact aj _)
      (λy hy => by
        have e : y = g := by
          rcases gq (y = g) with h | h
          · exact h
          · exact absurd (by simp [h]) hy
        subst e
        have ho := i2.own y (by rw [a4]; simp)
        exact ⟨ho.1, ho.2, λ_ _ _ => by rw [a4]; simp, λ_ _ _ => by rw [a4]; simp⟩)
      (λy => .inl rfl)
      (λy b hy => by
        by_cases e : y = g
        · subst e; rw [a4] at hy; cases hy
        · simp only [if_neg e]; exact i2.lJ y b hy)
    have agV : ∀ y, y ≠ g -> B_ lN w y -> B_ { lN with h := λy => if y = g then o + n * x.k else lN.h y, ω := lN.ω } w y := λy hy hL => ⟨hL.1, by simp only [if_neg hy]; exact hL.2.1, hL.2.2⟩
    obtain ⟨VS, i4, s4, b4, m4, g4, w4⟩ := i3.sJ (r := r) (x := x.share) (n := n) (c := c) (g := g) (o := o) q2 q3 q4 q5 q6 q7 a2 (.inl a4) (i2.own g (by rw [a4]; simp)).2 a5 a6 a7 (by simp only [if_true]; exact aj _) (λh => by cases h) sI
      (λbe hb => by
        rcases Tm be hb with h | ⟨h, iO⟩
        · by_cases e : be.1 = g
          · simp only [if_pos e]
            rw [e] at h
            exact .inl (az h a8)
          · simp only [if_neg e]
            rw [n6]; exact .inl h
        · exact .inr ⟨agV _ iO h, iO⟩)
      (λhf => by
        have : G = [] := a6.plain (q7 hf)
        subst this
        simp)
      (by show lN.sl r = _; rw [yi]; exact q1)
    rw [yh] at i4
    have mono : ∀ y, γ.h y <= VS.h y := λy => by
      refine az ?_ (m4 y)
      show γ.h y <= if y = g then o + n * x.k else lN.h y
      split
      · rename_i e; subst e; exact a8
      · rw [n6]; exact aj _
    have XO : o + n * x.k <= VS.h g := by
      have := m4 g
      simpa using this
    have jV : dm VS.h G := by
      cases hf : x.fl with
      | true =>
        have : G = [] := a6.plain (q7 hf)
        subst this
        exact λ_ h => by simp at h
      | false => exact g4 hf
    have acx : ∀ g, VS.ω g = γ.ω g \/ VS.ω g = .dd \/ VS.ω g = .free \/ VS.ω g = .row r := λy => by
      rcases w4 y with h | h | h
      · rw [h]
        rcases acw y with h' | h'
        · exact .inl h'
        · exact .inr (.inl h')
      · exact .inr (.inr (.inl h))
      · exact .inr (.inr (.inr h))
    by_cases hn : n = 0
    · refine ⟨VS, [], i4, b4.trans b2, s4.trans yi, mono, ?_, λ_ h => by simp at h, acx⟩
      simp only [Rp]
      exact ⟨_, n, c, q1, q2, q3, q4, q7, q5, q6, .inl ⟨hn, trivial⟩⟩
    · refine ⟨VS, (g, o + n * x.k) :: G, i4, b4.trans b2, s4.trans yi, mono, ?_, λbe hb => ?_, acx⟩
      · simp only [Rp]
        exact ⟨_, n, c, q1, q2, q3, q4, q7, q5, q6, .inr ⟨by omega, g, o, xs, G, rfl, rfl, a6, a7⟩⟩
      · rcases ay.1 hb with rfl | hb
        · exact XO
        · exact jV be hb
theorem sd(s:St)(r q:Nat)(x:Row):look (s.setRow r x).rw q=if r=q then some x else look s.rw q:=by
 simp only[St.setRow,look,dM]
 split<;>rfl
theorem Inv.xx:∀(rs:List Nat) {γ:Gh} {s:St},Inv γ h0 io w0 s f w->
  ∃γ',Inv γ' h0 io w0 (dJ s rs) f w/\γ'.β=γ.β/\γ'.sl=γ.sl/\(∀g,γ.h g<=γ'.h g)/\(∀r∈rs,∀x,look s.rw r=some x->∃G,Rp w (.list x.k x.fl x.es) (γ.sl r) G/\dm γ'.h G)/\
   (∀g,γ'.ω g=γ.ω g\/γ'.ω g=.dd\/γ'.ω g=.free\/∃r∈rs,γ'.ω g=.row r)/\(dJ s rs).sl=s.sl/\(dJ s rs).bx=s.bx/\∀q,q∉rs->look (dJ s rs).rw q=look s.rw q
 |[],γ,s,hi=>⟨γ,hi,rfl,rfl,λ_=>aj _,λ_ h=>by simp at h,λ_=>.inl rfl,rfl,rfl,λ_ _=>rfl⟩
 |r::rs,γ,s,hi=>by
  cases hl:look s.rw r with
  |none=>
   obtain⟨γ',i1,b1,s1,m1,g1,w1,e1,e2,e3⟩:=Inv.xx rs hi;have e0:dJ s (r::rs)=dJ s rs:=by simp[dJ,hl]
   rw[e0];refine⟨γ',i1,b1,s1,m1,λq hq x hx=>?_,λg=>?_,e1,e2,λq hq=>e3 q (λh=>hq (by simp[h]))⟩
   ·rcases ay.1 hq with rfl|hq
    ·rw[hl]at hx;cases hx
    ·exact g1 q hq x hx
   ·rcases w1 g with h|h|h|⟨q,hq,h⟩
    ·exact .inl h
    ·exact .inr (.inl h)
    ·exact .inr (.inr (.inl h))
    ·exact .inr (.inr (.inr ⟨q,by simp[hq],h⟩))
  |some x=>
   obtain⟨pf,G,i1,b1,s1,m1,rp1,aii,w1⟩:=hi.share1 hl;obtain⟨lN,i2,b2,s2,m2,g2,w2,e1,e2,e3⟩:=Inv.xx rs i1;have e0:dJ s (r::rs)=dJ (s.setRow r x.share) rs:=by simp[dJ,hl]
   rw[e0];refine⟨lN,i2,b2.trans b1,s2.trans s1,λg=>az (m1 g) (m2 g),λq hq y hy=>?_,λg=>?_,e1,e2,λq hq=>?_⟩
   ·by_cases hqr:q=r
    ·subst hqr;rw[hl]at hy;cases hy;exact⟨G,rp1,aii.mono m2⟩
    ·rcases ay.1 hq with hq|hq
     ·exact absurd hq hqr
     ·obtain⟨G',h1,h2⟩:=g2 q hq y (by rw[sd,if_neg (kF hqr)];exact hy);exact⟨G',by rw[<- s1];exact h1,h2⟩
   ·rcases w2 g with h|h|h|⟨q,hq,h⟩
    ·rw[h];rcases w1 g with h'|h'|h'|h'
     ·exact .inl h'
     ·exact .inr (.inl h')
     ·exact .inr (.inr (.inl h'))
     ·exact .inr (.inr (.inr ⟨r,by simp,h'⟩))
    ·exact .inr (.inl h)
    ·exact .inr (.inr (.inl h))
    ·exact .inr (.inr (.inr ⟨q,by simp[hq],h⟩))
   ·simp only[ay,not_or]at hq;rw[e3 q hq.2,sd,if_neg (kF hq.1)]
theorem qx:∀(l:List Nat),iR l=true↔l.Nodup
 |[]=>by simp[iR]
 |x::l=>by simp[iR,qx l]
theorem MU{s S:St}:∀(cs:List C),(∀r∈rowsOf cs,look S.rw r=look s.rw r)->fk (iK S) cs=fk (iK s) cs
 |[],_=>rfl
 |c::cs,h=>by
  have ih:=MU (s:=s) (S:=S) cs (λr hr=>h r (by cases c<;>simp[rowsOf,hr]));simp only[fk,ih];cases c with
  |ref r=>simp only[iK,h r (by simp[rowsOf])]
  |_=>rfl
theorem MR{s:St}:∀{cs:List C} {rs:List RV},fk (iK s) cs=some rs->cs.all C.cell=true
 |[],_,_=>rfl
 |c::cs,rs,h=>by
  simp only[fk]at h
  split at h
  ·rename_i y hy;simp only[ad]at h;obtain⟨Cx,h,_⟩:=h;have ih:=MR h;cases c<;>simp_all[iK,C.cell]
  ·cases h
theorem zo{s:St}:∀{cs:List C} {rs:List RV},fk (kJ s) cs=some rs->cs.all C.cell=true
 |[],_,_=>rfl
 |c::cs,rs,h=>by
  simp only[fk]at h
  split at h
  ·rename_i y hy;simp only[ad]at h;obtain⟨Cx,h,_⟩:=h;have ih:=zo h;cases c<;>simp_all[kJ,C.cell]
  ·cases h
theorem R1{γ B4:Gh}{s:St}{ln:List Nat}(hm:∀g,γ.h g<=B4.h g)(hG:∀r∈ln,∀x,look s.rw r=some x->∃G,Rp w (.list x.k x.fl x.es) (γ.sl r) G/\dm B4.h G) :
  ∀(cs:List C) {vs:List Value} {rs:List RV},dS γ w cs vs->fk (kJ s) cs=some rs->(∀r∈rowsOf cs,r∈ln)->gA B4.h w rs vs []
 |[],vs,rs,hc,h,_=>by
  simp only[fk,aa]at h;subst h;simp only[dS]at hc;simp[gA,hc]
 |c::cs,vs,rs,hc,h,hl=>by
  simp only[dS]at hc;obtain⟨v,eb,rfl,hv,yz⟩:=hc;simp only[fk]at h
  split at h
  ·rename_i y hy;simp only[ad]at h;obtain⟨Cx,h,rfl⟩:=h;have ih:=R1 hm hG cs yz h (λr hr=>hl r (by cases c<;>simp[rowsOf,hr]));simp only[gA];refine⟨v,eb,[],[],rfl,rfl,?_,ih⟩;cases c with
   |d x=>
    simp only[kJ,aa]at hy;subst hy;simp only[CR]at hv;obtain⟨G,h1,h2⟩:=hv;exact⟨rfl,G,h1,h2.mono hm⟩
   |nil k fl=>
    simp only[kJ,aa]at hy;subst hy;simp only[CR]at hv;refine⟨rfl,[],?_,λ_ h=>by simp at h⟩;simp only[Rp];exact⟨none,0,0,hv.1,rfl,aj _,by simp[maxLen],λ_=>ja,hv.2,λ_ h=>by simp at h,.inl ⟨rfl,trivial⟩⟩
   |ref r=>
    simp only[kJ,ad]at hy;obtain⟨x,hx,rfl⟩:=hy;simp only[CR]at hv;obtain⟨G,h1,h2⟩:=hG r (hl r (by simp[rowsOf])) x hx;exact⟨rfl,G,by rw[hv.1];exact h1,h2⟩
   |_=>simp[kJ]at hy
  ·cases h
theorem GO{γ B4:Gh}{s S:St}{ln:List Nat}(hS:Inv B4 h0 io w0 S f w)(hb:B4.β=γ.β)(sS:B4.sl=γ.sl)(hm:∀g,γ.h g<=B4.h g)(hbx:S.bx=s.bx)(hG:∀r∈ln,∀x,look s.rw r=some x->∃G,Rp w (.list x.k x.fl x.es) (γ.sl r) G/\dm B4.h G)
  (hlk:∀q,q∉ln->look S.rw q=look s.rw q):∀(cs:List C) {vs:List Value} {as:List A},dS γ w cs vs->vI s cs=some as->(∀r∈hH cs,r∈ln)->(∀r∈cH s cs,r∉ln)->(cH s cs).Nodup->(cd cs).Nodup->
   ∃F,kG B4.h w as vs F/\F.Nodup/\(∀g∈F,(∃r∈cH s cs,B4.ω g=.row r)\/∃b∈cd cs,B4.ω g=.box b/\g=B4.β b)/\∀b∈cd cs,Value.pointer (some ⟨B4.β b,0,none⟩)∈fS as vs
 |[],vs,as,hc,h,_,_,_,_=>by
  simp only[vI,aa]at h;subst h;simp only[dS]at hc;exact⟨[],by simp[kG,hc],by simp,λ_ h=>by simp at h,λ_ h=>by simp[cd]at h⟩
 |c::cs,vs,as,hc,h,hl,Wi,QR,hnb=>by
  simp only[dS]at hc;obtain⟨v,eb,rfl,hv,yz⟩:=hc;simp only[vI]at h
  split at h
  ·rename_i a ha;simp only[ad]at h;obtain⟨Lc,h,rfl⟩:=h;simp only[hH,cH]at hl Wi QR;rw[bj]at QR;obtain⟨vR,JZ,hn3⟩:=QR;have agD:(cd cs).Nodup:=by
    cases c<;>simp_all[cd]
   obtain⟨F2,r2,d2,l2,p2⟩:=GO hS hb sS hm hbx hG hlk cs yz h (λr hr=>hl r (by simp[hr])) (λr hr=>Wi r (by simp[hr])) JZ agD;have OV:CR B4 w c v:=hv.mono (γ':=B4) hm (λ_ _ _=>rfl) hb sS c;unfold OF at ha
   split at ha
   ·rename_i b
    split at ha
    ·rename_i OQ XI;simp only[ad]at ha;obtain⟨rs,qX,rfl⟩:=ha;have hmo:pM s (.ptr b 0)=rowsOf OQ:=by simp[pM,XI]
     rw[hmo]at Wi vR hn3;obtain⟨T,us,k1,k2,k3⟩:=hS.bx b OQ (by rw[hbx];exact XI);rw[<- MU (S:=S) _ (λr hr=>hlk r (Wi r (by simp[hr])))]at qX;obtain⟨F1,x1,x2,x3⟩:=xG hS _ k2 qX;simp only[CR]at OV;simp only[cd,bZ]at hnb;refine⟨(B4.β b::F1)++F2,?_,?_,λg hg=>?_,λb' kU=>?_⟩
     ·simp only[kG];refine⟨v,eb,B4.β b::F1,F2,rfl,rfl,?_,r2⟩;simp only[AR];exact⟨_,T,us,F1,OV,k1,hS.lJ _ b k3,rfl,x1⟩
     ·rw[bj];refine⟨bZ.2 ⟨λhm=>?_,x3 vR⟩,d2,?_⟩
      ·obtain⟨r,_,hr⟩:=x2 _ hm;rw[k3]at hr;cases hr
      ·intro x hx y hy e;subst e;rcases ay.1 hx with rfl|hx
       ·rcases l2 _ hy with ⟨q,hq,h2⟩|⟨b',kU,h2,_⟩
        ·rw[k3]at h2;cases h2
        ·rw[k3]at h2;cases h2;exact hnb.1 kU
       ·obtain⟨r,hr,h1⟩:=x2 x hx;rcases l2 x hy with ⟨q,hq,h2⟩|⟨b',kU,h2,_⟩
        ·rw[h1]at h2;cases h2;exact hn3 _ hr _ hq rfl
        ·rw[h1]at h2;cases h2
     ·rcases aL.1 hg with hg|hg
      ·rcases ay.1 hg with rfl|hg
       ·exact .inr ⟨b,by simp[cd],k3,rfl⟩
       ·obtain⟨r,hr,h1⟩:=x2 g hg;exact .inl ⟨r,by simp only[cH,aL,hmo];exact .inl hr,h1⟩
      ·rcases l2 g hg with ⟨r,hr,h1⟩|⟨b',kU,h1⟩
       ·exact .inl ⟨r,by simp only[cH,aL];exact .inr hr,h1⟩
       ·exact .inr ⟨b',by simp[cd,kU],h1⟩
     ·simp only[cd,ay]at kU;simp only[fS,ay];rcases kU with rfl|kU
      ·exact .inl OV.symm
      ·exact .inr (p2 b' kU)
    ·cases ha
   ·rename_i QS;simp only[ad]at ha;obtain⟨rs,qX,rfl⟩:=ha;obtain⟨k1,k2,k3⟩:=hv.cells (zo qX);have x1:=R1 hm hG _ k1 qX (λr hr=>hl r (by simp[hr]));have Wa:cd (c::cs)=cd cs:=by
     have qO:=zo qX;cases c<;>simp_all[cd,C.cells,C.cell]
    refine⟨F2,?_,d2,λg hg=>?_,λb kU=>?_⟩
    ·simp only[kG];refine⟨v,eb,[],F2,rfl,rfl,?_,r2⟩;simp only[AR];refine⟨_,x1,λsQ=>?_,λsQ=>by rw[k2 sQ]⟩;obtain⟨us,rfl⟩:=k3 sQ;simp[Value.cells]
    ·rw[Wa];rcases l2 g hg with ⟨r,hr,h1⟩|h1
     ·exact .inl ⟨r,by simp only[cH,aL];exact .inr hr,h1⟩
     ·exact .inr h1
    ·rw[Wa]at kU;simp only[fS];exact p2 b kU
  ·cases h
theorem G9{γ γ':Gh}{s:St}{rs:List Nat}(hm:∀g,γ.h g<=γ'.h g)(hb:γ'.β=γ.β)(sS:γ'.sl=γ.sl)(hG:∀r∈rs,∀x,look s.rw r=some x->∃G,Rp w (.list x.k x.fl x.es) (γ.sl r) G/\dm γ'.h G) :
  ∀{cs:List C} {vs:List Value},(∀r∈rowsOf cs,r∈rs)->dS γ w cs vs->dS γ' w (cs.map (Nf s)) vs
 |[],vs,_,h=>by simpa only [dD,dS] using h
 |c::cs,vs,hr,h=>by
  simp only[dS]at h;obtain⟨v,eb,rfl,h1,h2⟩:=h;simp only[aN,dS];refine⟨v,eb,rfl,?_,G9 hm hb sS hG (λr hx=>hr r (by cases c<;>simp_all[rowsOf])) h2⟩;have Xz:CR γ' w c v:=CR.mono hm (λ_ _ _=>rfl) hb sS c h1;cases c with
  |ref r=>
   simp only[Nf];split
   ·rename_i x hx;obtain⟨G,g1,g2⟩:=hG r (hr r (by simp[rowsOf])) x hx;simp only[CR]at h1 ⊢;rw[h1.1];exact⟨G,g1,g2⟩
   ·exact Xz
  |_=>exact Xz
theorem Inv.qe{γ:Gh}{s s':St}{d:Nat}(hi:Inv γ h0 io w0 s f w)(hs:Proofs.YtcdjbelccndadaaGreatDoor.qe s d=some s'):∃γ',Inv γ' h0 io w0 s' f w/\γ'.β=γ.β:=by
 unfold Proofs.YtcdjbelccndadaaGreatDoor.qe at hs
 split at hs
 ·rename_i r hr
  split at hs
  ·rename_i x hx;cases hs;obtain⟨γ',i',b',s1,h1,g1,_⟩:=hi.xx [r];obtain⟨G,hG,hS⟩:=g1 r (by simp) x hx;have hv:=hi.get d;rw[hr]at hv;simp only[CR]at hv;exact⟨γ',i'.Ve d _ (by simp only[CR];rw[hv.1];exact⟨G,hG,hS⟩),b'⟩
  ·cases hs
 ·rename_i b hr
  split at hs
  ·rename_i cs hx;cases hs;obtain⟨T,vs,hB,hC,qP⟩:=hi.bx b cs hx;obtain⟨γ',i',b',s1,h1,g1,_,_,ebx,_⟩:=hi.xx (rowsOf cs);obtain⟨T',eb,V9,T7,agS⟩:=i'.bx b cs (by rw[ebx];exact hx);have hv:eb=vs:=by
    rw[b']at V9;have he:=eJ (V9.symm.trans hB)
    injection he with he
    simpa using congrArg Array.toList he
   exact⟨γ',i'.eN V9 agS (hv▸G9 h1 b' s1 g1 (λr hr=>hr) hC),b'⟩
  ·cases hs;exact⟨γ,hi,rfl⟩
 ·cases hs;exact⟨γ,hi,rfl⟩
end
end
section
open Go.RowKit
section
variable {h0:Nat->Nat} {io:List Nat} {w0:World} {f:Fm} {w:World}
theorem Inv.after{γ:Gh}{s:St}(hi:Inv γ h0 io w0 s f w){h1 h':Nat->Nat}{F mv bs:List Nat}{w':World}(oW:xL h1 F w w' h')(hm:∀g,γ.h g<=h1 g)(agx:∀g∈F,(∃r∈mv,γ.ω g=.row r)\/∃b∈bs,γ.ω g=.box b)(hr:∀r∈mv,look s.rw r=none)(hb:∀b∈bs,look s.bx b=none)
  (QI:∀g∈F,∀b,γ.ω g=.box b->h' g=0) :
  sG γ (λo=>(∃r∈mv,o=.row r)\/∃b∈bs,o=.box b) w w'/\
  ∃γ',Inv γ' h0 io w0 s f w'/\γ'.β=γ.β/\γ'.sl=γ.sl/\(∀g,γ.h g<=γ'.h g)/\(∀g,g < w.heap.size->g∉F->γ'.h g=γ.h g)/\(∀g,w.heap.size<=g\/g∈F->γ'.h g=h' g)/\(∀g∈F,(∃r∈mv,γ.ω g=.row r)->γ'.ω g=.dd)/\(∀g b,γ.ω g=.box b->γ'.ω g=.box b)/\(∀g,w.heap.size<=g->γ'.ω g=.free):=by
 have hFM:∀g∈F,(∃r∈mv,γ.ω g=.row r)\/∃b∈bs,γ.ω g=.box b:=agx;have mP:sG γ (λo=>(∃r∈mv,o=.row r)\/∃b∈bs,o=.box b) w w':={
  os:=oW.os,tape:=oW.tape,output:=oW.output,size:=oW.size
  block:=λg hg hn=>oW.block g hg (λhF=>hn (hFM g hF))
  cell:=λg j hj=>by
   have hg:g < w.heap.size:=by
    rcases cY g w.heap.size with h|h
    ·exact h
    ·have:=hi.eM g h;omega
   exact oW.cell g j hg (bn hj (hm g))
  eV:=oW.eV }
 have i1:=hi.M6 mP (by rintro (⟨r,_,h⟩|⟨b,_,h⟩)<;>cases h) (λb h=>by
   rcases h with ⟨r,_,h⟩|⟨b',kU,h⟩
   ·cases h
   ·cases h;exact hb b kU) (λr h=>by
   rcases h with ⟨r',yW,h⟩|⟨b',_,h⟩
   ·cases h;exact hr r yW
   ·cases h)
 have dead:∀g∈F,(∀b cs,look s.bx b=some cs->γ.ω g≠.box b)/\∀r x,look s.rw r=some x->γ.ω g≠.row r:=by
  intro g hg;rcases hFM g hg with ⟨r,yW,h⟩|⟨b,kU,h⟩
  ·refine⟨λb cs _=>by rw[h];simp,λq x hq=>?_⟩;rw[h];intro e;cases e;rw[hr r yW]at hq;cases hq
  ·refine⟨λb' cs hq=>?_,λq x _=>by rw[h];simp⟩;rw[h];intro e;cases e;rw[hb b kU]at hq;cases hq
 refine⟨mP,?_⟩;have i2:=i1.settle (h':=λg=>if g < w.heap.size/\g∉F then γ.h g else h' g) (ω':=λg=>match γ.ω g with | .row r=>if r∈mv/\g∈F then .dd else .row r|o=>o)
  (λg=>by
   split
   ·exact aj _
   ·rename_i hn;rcases cY g w.heap.size with h|h
    ·exact az (hm g) (oW.mono g h)
    ·rw[hi.eM g h];omega)
  (λg hg=>by
   by_cases hc:g < w.heap.size/\g∉F
   ·simp[hc]at hg
   ·simp only[if_neg hc]at hg;rcases cY g w.heap.size with h|h
    ·have hF:g∈F:=by
      rcases gq (g∈F) with h2|h2
      ·exact h2
      ·exact absurd ⟨h,h2⟩ hc
     have iO:γ.ω g≠.free:=by rcases hFM g hF with ⟨r,_,h⟩|⟨b,_,h⟩<;>rw[h]<;>simp
     exact⟨bn h oW.size,(hi.own g iO).2,dead g hF⟩
    ·have ic:g < w'.heap.size:=by
      rcases cY g w'.heap.size with h2|h2
      ·exact h2
      ·exact absurd (by rw[oW.eM g h2,hi.eM g h]) hg
     have hfr:=hi.qG h;exact⟨ic,.inl (az hi.size h),λ_ _ _=>by rw[hfr];simp,λ_ _ _=>by rw[hfr];simp⟩)
  (λg=>by
   cases ho:γ.ω g with
   |row r=>
    simp only
    by_cases hc:r∈mv/\g∈F
    ·rw[if_pos hc];have:=dead g hc.2;rw[ho]at this;exact .inr ⟨.inr rfl,by simp,this⟩
    ·rw[if_neg hc];exact .inl rfl
   |_=>exact .inl rfl)
  (λg b hg=>by
   have ho:γ.ω g=.box b:=by
    cases ho:γ.ω g with
    |row r=>
     rw[ho]at hg;simp only at hg
     split at hg<;>cases hg
    |free=>rw[ho]at hg;cases hg
    |dd=>rw[ho]at hg;cases hg
    |box b'=>rw[ho]at hg;exact hg
   by_cases hc:g < w.heap.size/\g∉F
   ·simp only[if_pos hc];exact hi.lJ g b ho
   ·simp only[if_neg hc];rcases cY g w.heap.size with h|h
    ·have hF:g∈F:=by
      rcases gq (g∈F) with h2|h2
      ·exact h2
      ·exact absurd ⟨h,h2⟩ hc
     exact QI g hF b ho
    ·rw[hi.qG h]at ho;cases ho)
 refine⟨_,i2,rfl,rfl,λg=>?_,λg h1 h2=>by simp[h1,h2],λg hg=>?_,λg hg ⟨r,yW,h⟩=>by simp[h,yW,hg],λg b h=>by simp[h],λg hg=>by simp[hi.qG hg]⟩
 ·dsimp only;split
  ·exact aj _
  ·rcases cY g w.heap.size with h|h
   ·exact az (hm g) (oW.mono g h)
   ·rw[hi.eM g h];omega
 ·have hc:¬(g < w.heap.size/\g∉F):=by
   rintro⟨h1,h2⟩
   rcases hg with h|h
   ·omega
   ·exact h2 h
  simp only[if_neg hc]
theorem ni.re{h h2:Nat->Nat}{x:Row}{v:Value}{F:List Nat}(hr:ni h w x v F)(hF:∀g∈F,h2 g=h g)(hc:x.deep=true\/∀g,h g<=h2 g):ni h2 w x v F:=by
 obtain⟨A,n,c,q1,q2,q3,q4,q5,q6,q7,q8⟩:=hr;refine⟨A,n,c,q1,q2,q3,q4,q5,q6,q7,?_⟩;rcases q8 with q8|⟨g,o,xs,G,a1,a2,a3,a4,a5,a6,a7,a8,a9,sI⟩
 ·exact .inl q8
 ·have hg:g∈F:=by
   cases hd:x.deep with
   |true=>rw[(a9 hd).1];simp
   |false=>rw[(sI hd).1];simp
  refine .inr ⟨g,o,xs,G,a1,a2,a3,a4,a5,by rw[hF g hg];exact a6,λhz=>by rw[hF g hg];exact a7 hz,a8,λhd=>⟨(a9 hd).1,λbe hb=>?_⟩,λhd=>⟨(sI hd).1,?_⟩⟩
  ·have hm:be.1∈F:=by rw[(a9 hd).1];simp;exact .inr ⟨be.2,hb⟩
   rw[hF _ hm];exact (a9 hd).2 be hb
  ·rcases hc with hc|hc
   ·rw[hd]at hc;cases hc
   ·exact (sI hd).2.mono hc
theorem gA.re{h h2:Nat->Nat}:∀{rs:List RV} {vs:List Value} {F:List Nat},gA h w rs vs F->(∀g∈F,h2 g=h g)->(rs.all RV.closed=true\/∀g,h g<=h2 g)->gA h2 w rs vs F
 |[],_,_,hr,_,_=>by simpa only [gA] using hr
 | .d x::rs,_,_,hr,hF,hc=>by
  simp only[gA,CF]at hr ⊢;obtain⟨v,eb,F1,F2,rfl,rfl,⟨rfl,G,h3,h4⟩,h5⟩:=hr;refine⟨v,eb,[],F2,rfl,rfl,⟨rfl,G,h3,?_⟩,gA.re h5 (by simpa using hF) (hc.imp (λh=>by simp at h ⊢;exact h.2) id)⟩;rcases hc with hc|hc
  ·simp only[bW,ab,RV.closed]at hc;have:ee w [x] [v] G:=by simp only[ee];exact⟨v,[],G,[],rfl,by simp,h3,rfl,rfl⟩
   have hG:G=[]:=this.plain (by simp[hc.1]);subst hG;exact λ_ h=>by simp at h
  ·exact h4.mono hc
 | .row x::rs,_,_,hr,hF,hc=>by
  simp only[gA,CF]at hr ⊢;obtain⟨v,eb,F1,F2,rfl,rfl,⟨h3,h4⟩,h5⟩:=hr;refine⟨v,eb,F1,F2,rfl,rfl,⟨h3.re (λg hg=>hF g (by simp[hg])) (hc.imp (λh=>by simp[RV.closed]at h;exact h.1) id),h4⟩,gA.re h5 (λg hg=>hF g (by simp[hg])) (hc.imp (λh=>by simp at h ⊢;exact h.2) id)⟩
theorem kG.re{h h2:Nat->Nat}:∀{rs:List A} {vs:List Value} {F:List Nat},kG h w rs vs F->(∀g∈F,h2 g=h g)->(rs.all A.closed=true\/∀g,h g<=h2 g)->kG h2 w rs vs F
 |[],_,_,hr,_,_=>by simpa only [kG] using hr
 | .val ag cs::rs,_,_,hr,hF,hc=>by
  simp only[kG,AR]at hr ⊢;obtain⟨v,eb,F1,F2,rfl,rfl,⟨us,h3,h4⟩,h5⟩:=hr;exact⟨v,eb,F1,F2,rfl,rfl,⟨us,h3.re (λg hg=>hF g (by simp[hg])) (hc.imp (λh=>by simp only[bW,ab,A.closed]at h;exact h.1) id),h4⟩,kG.re h5 (λg hg=>hF g (by simp[hg])) (hc.imp (λh=>by simp only[bW,ab]at h;exact h.2) id)⟩
 | .box cs::rs,_,_,hr,hF,hc=>by
  simp only[kG,AR]at hr ⊢;obtain⟨v,eb,F1,F2,rfl,rfl,⟨g,T,us,F',h1,h2',h3,rfl,h4⟩,h5⟩:=hr;refine⟨v,eb,g::F',F2,rfl,rfl,⟨g,T,us,F',h1,h2',by rw[hF g (by simp)];exact h3,rfl,h4.re (λy hy=>hF y (by simp[hy])) (hc.imp (λh=>by simp only[bW,ab,A.closed]at h;exact h.1) id)⟩,kG.re h5 (λg hg=>hF g (by simp[hg])) (hc.imp (λh=>by simp only[bW,ab]at h;exact h.2) id)⟩
theorem AR.ptr{h:Nat->Nat}{a:A}{g:Nat}{F:List Nat}(hr:AR h w a (.pointer (some ⟨g,0,none⟩)) F):(∃cs,a=.box cs)/\h g=0/\g∈F:=by
 cases a with
 |val ag cs=>
  simp only[AR]at hr;obtain⟨us,h1,h2,h3⟩:=hr;cases ag with
  |true=>cases h2 rfl
  |false=>
   have:=h3 rfl;subst this;cases cs with
   |nil=>simp[gA]at h1
   |cons r rs=>
    simp only[gA]at h1;obtain⟨v,eb,F1,F2,e,_,h4,_⟩:=h1;simp only[bq]at e;rw[<- e.1]at h4;cases r with
    |d x=>
     obtain⟨_,G,h5,_⟩:=h4;have:=h5.qQ;cases x<;>simp[Rp]at h5
    |row x=>
     obtain⟨A,n,c,h6⟩:=h4.1.slice;cases h6
 |box cs=>
  simp only[AR]at hr;obtain⟨g',T,us,F',e,_,h3,rfl,_⟩:=hr;simp only[Value.pointer.injEq,aa,Addr.mk.injEq,and_true]at e;subst e;exact⟨⟨cs,rfl⟩,h3,by simp⟩
theorem kG.ptr{h:Nat->Nat}:∀{as:List A} {vs:List Value} {F:List Nat},kG h w as vs F->∀g,Value.pointer (some ⟨g,0,none⟩)∈vs->h g=0/\g∈F
 |[],_,_,hr,g,hg=>by simp only[kG]at hr;rw[hr.1]at hg;simp at hg
 |a::as,_,_,hr,g,hg=>by
  simp only[kG]at hr;obtain⟨v,eb,F1,F2,rfl,rfl,h1,h2⟩:=hr;rcases ay.1 hg with rfl|hg
  ·obtain⟨_,h3,h4⟩:=h1.ptr;exact⟨h3,by simp[h4]⟩
  ·obtain⟨h3,h4⟩:=kG.ptr h2 g hg;exact⟨h3,by simp[h4]⟩
def CE(β:Nat->Nat):List C->List Value->Prop
 |[],vs=>vs=[]
 |c::cs,vs=>∃v eb,vs=v::eb/\(∀b,c=.ptr b 0->v=.pointer (some ⟨β b,0,none⟩))/\CE β cs eb
theorem dS.Ou{γ:Gh}:∀{cs:List C} {vs:List Value},dS γ w cs vs->CE γ.β cs vs
 |[],_,h=>by simpa only [dS,CE] using h
 |c::cs,_,h=>by
  simp only[dS]at h;obtain⟨v,eb,rfl,h1,h2⟩:=h;simp only[CE];exact⟨v,eb,rfl,λb e=>by subst e;simpa only [CR] using h1,dS.Ou h2⟩
theorem xF:∀(cs:List C) {as outs:List A} {vs:List Value} {F:List Nat} {γ:Gh} {s s':St},Inv γ h0 io w0 s f w->CE γ.β cs vs->vI s' cs=some as->kG γ.h w outs (fS as vs) F->F.Nodup->(∀g∈F,(γ.ω g=.free\/γ.ω g=.dd\/Value.pointer (some ⟨g,0,none⟩)∈fS as vs)/\g < w.heap.size/\(w0.heap.size<=g\/g∈io))->
  (∀b∈cd cs,γ.ω (γ.β b)=.box b)->∃γ',Inv γ' h0 io w0 (jM s cs outs) f w/\γ'.β=γ.β/\γ'.h=γ.h/\∀g,g∉F->γ'.ω g=γ.ω g
 |[],as,outs,vs,F,γ,s,s',hi,_,_,_,_,_,_=>⟨γ,by simpa [jM] using hi,rfl,rfl,λ_ _=>rfl⟩
 |c::cs,as,outs,vs,F,γ,s,s',hi,hc,ha,hr,jk,hF,Wa=>by
  simp only[CE]at hc;obtain⟨v,eb,rfl,hv,yz⟩:=hc;simp only[vI]at ha
  split at ha
  ·rename_i a T8;simp only[ad]at ha;obtain⟨Lc,ha,rfl⟩:=ha;by_cases hp:∃b,c=.ptr b 0
   ·obtain⟨b,rfl⟩:=hp;have lJ:∃rs,a=.box rs:=by
     simp only[OF]at T8
     split at T8
     ·simp only[ad]at T8;obtain⟨rs,_,rfl⟩:=T8;exact⟨rs,rfl⟩
     ·cases T8
    obtain⟨rs,rfl⟩:=lJ;simp only[fS]at hr hF;have hv:=hv b rfl;cases outs with
    |nil=>simp[kG]at hr
    |cons o outs=>
     simp only[kG]at hr;obtain⟨v0,ovs,F1,F2,e,rfl,h1,h2⟩:=hr;simp only[bq]at e;obtain⟨rfl,rfl⟩:=e;rw[hv]at h1;obtain⟨⟨OQ,rfl⟩,hz,hgm⟩:=h1.ptr;simp only[AR]at h1;obtain⟨g,T,us,F',e,hB,yU,rfl,qX⟩:=h1;simp only[Value.pointer.injEq,aa,Addr.mk.injEq,and_true]at e;subst e;rw[bj]at jk;obtain⟨vR,JZ,qW⟩:=jk;obtain⟨hg1,XX⟩:=bZ.1 vR;have QB:∀g∈F',γ.ω g=.free\/γ.ω g=.dd:=by
      intro g hg;rcases (hF g (by simp[hg])).1 with h|h|h
      ·exact .inl h
      ·exact .inr h
      ·exfalso
       rcases ay.1 h with h|h
       ·rw[hv]at h;simp only[Value.pointer.injEq,aa,Addr.mk.injEq,and_true]at h;exact hg1 (h▸hg)
       ·have:=(kG.ptr h2 g h).2;exact qW g (by simp[hg]) g this rfl
     obtain⟨pf,i1,c1,b1,Xz,o1,s1⟩:=mr (d:=b+500) OQ 0 hi qX XX (λg hg=>⟨QB g hg,(hF g (by simp[hg])).2⟩);have agT:pf.ω (pf.β b)=.box b:=by
      rw[b1,o1 _ hg1];exact Wa b (by simp[cd])
     have i2:=i1.eN (b:=b) (by rw[b1];exact hB) agT c1;have agW:∀g,g∈F2->g∉F':=λg hg h=>qW g (by simp[h]) g hg rfl;obtain⟨lN,i3,b3,h3,o3⟩:=xF cs (as:=Lc) (outs:=outs) (vs:=eb) (F:=F2) i2 (by rw[b1];exact yz) ha (by rw[Xz];exact h2) JZ (λg hg=>by
      obtain⟨k1,k2⟩:=hF g (by simp[hg]);refine⟨?_,k2⟩;rw[o1 g (agW g hg)];rcases k1 with h|h|h
      ·exact .inl h
      ·exact .inr (.inl h)
      ·rcases ay.1 h with h|h
       ·exfalso
        rw[hv]at h;simp only[Value.pointer.injEq,aa,Addr.mk.injEq,and_true]at h;exact qW g (by simp[h]) g hg rfl
       ·exact .inr (.inr h)) (λb' kU=>by
      have Ap:=Wa b' (by simp[cd,kU]);rw[b1,o1]
      ·exact Ap
      ·intro hm;rcases QB _ hm with h|h<;>rw[Ap]at h<;>cases h)
     refine⟨lN,by simpa [jM] using i3,b3.trans b1,h3.trans Xz,λg hg=>?_⟩;simp only[aL,ay,not_or]at hg;rw[o3 g hg.2,o1 g hg.1.2]
   ·have J4:∃ag rs,a=.val ag rs:=by
     unfold OF at T8
     split at T8
     ·rename_i b;exact absurd ⟨b,rfl⟩ hp
     ·simp only[ad]at T8;obtain⟨rs,_,rfl⟩:=T8;exact⟨_,rs,rfl⟩
    obtain⟨ag,rs,rfl⟩:=J4;simp only[fS]at hr hF;have e:jM s (c::cs) outs=jM s cs outs:=by
     cases c with
     |ptr b o=>
      cases o with
      |zero=>exact absurd ⟨b,rfl⟩ hp
      |succ o=>simp[jM]
     |_=>simp[jM]
    rw[e];exact xF cs hi yz ha hr jk hF (λb hb=>Wa b (by cases c<;>simp[cd,hb]))
  ·cases ha
theorem vC{d:Nat}:∀(rs:List A) {us:List Value} {F:List Nat} (q:Nat) {γ:Gh} {s:St},Inv γ h0 io w0 s f w->kG γ.h w rs us F->F.Nodup->(∀g∈F,(γ.ω g=.free\/γ.ω g=.dd)/\g < w.heap.size/\(w0.heap.size<=g\/g∈io))->(∀a∈rs,∃ag cs,a=.val ag cs/\cs.length<=30)->
  ∃γ',Inv γ' h0 io w0 (ft d q rs s).2 f w/\dS γ' w (ft d q rs s).1 us/\γ'.β=γ.β/\γ'.h=γ.h/\∀r,(∀i,30 * q<=i->r≠tw d i)->γ'.sl r=γ.sl r
 |[],us,F,q,γ,s,hi,hr,_,_,_=>by
  simp only[kG]at hr;obtain⟨rfl,rfl⟩:=hr;exact⟨γ,by simpa [ft] using hi,by simp[ft,dS],rfl,rfl,λ_ _=>rfl⟩
 |a::rs,us,F,q,γ,s,hi,hr,jk,hF,hv=>by
  obtain⟨ag,cs,rfl,hlen⟩:=hv a (by simp);simp only[kG,AR]at hr;obtain⟨v,eb,F1,F2,rfl,rfl,⟨ws,h3,h4,h5⟩,h6⟩:=hr;rw[bj]at jk;obtain⟨vR,JZ,qW⟩:=jk;have hwl:=h3.length;obtain⟨pf,i1,c1,b1,e1,o1,s1⟩:=qm (d:=d) cs (30 * q) hi h3 vR (λg hg=>hF g (by simp[hg]));obtain⟨lN,i2,c2,b2,e2,s2⟩:=vC rs (q+1) i1 (by rw[e1];exact h6) JZ (λg hg=>by
   rw[o1 g (λh=>qW g h g hg rfl)];exact hF g (by simp[hg])) (λa ha=>hv a (by simp[ha]))
  have c1':dS lN w (dV d (30 * q) cs s).1 ws:=by
   refine c1 lN (by rw[e2]) (λj hj1 hj2=>s2 _ (λi hi=>Ks (by omega)))
  refine⟨lN,i2,?_,b2.trans b1,e2.trans e1,λr hr=>?_⟩
  ·simp only[ft,dS];refine⟨v,eb,rfl,?_,c2⟩;cases ag with
   |true=>
    rw[h4 rfl];simp only[if_true,CR];exact⟨ws,rfl,c1'⟩
   |false=>
    simp only[au,if_false];have:=h5 rfl;subst this;exact wG c1'
  ·rw[s2 r (λi hi=>hr i (by omega)),s1 r (λi hi=>hr i hi)]
end
end
end Go.Proofs.YtcdjbelccndadaaGreatDoor
