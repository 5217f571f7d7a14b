/- Part of the proof: a machine over plain data, its proof, the functions of the program run on symbols, what they answer. Condition: none. -/
import Derived.WalkKit
import Derived.WalkSpells
import Derived.WalkLawsBesides
import Derived.Deep.LoopGhost
import Derived.OrdersHeld
import Derived.Lib.ItoaNum
import Derived.Lib.Bytealg
import Derived.Lib.LaidTab
import Derived.Laws.Tables
set_option linter.unusedVariables false
set_option linter.unusedSimpArgs false
open Array renaming length_toList->eU,toList_map->mL,getElem?_eq_getElem->mO,replicate->qA,getElem?_eq_none->vU,toArray_toList->yi
open Bool renaming and_eq_true->ai,false_eq_true->aD,not_eq_true'->ck,or_eq_true->df,eq_iff_iff->dC,true->I,false->J
open Decidable renaming em->jL,decide->Z'
open Go renaming sizeOf->mP
open Int renaming neg_neg->tV
open List renaming cons_append->au,nil_append->av,length_map->aA,length_cons->aG,mem_cons->aI,append_nil->aJ,length_nil->aP,mem_append->aT,replicate->aY,map_cons->aZ,length_append->a_,getElem?_eq_some_iff->bh,length_take->bj,take_length->bo,all_eq_true->bz,append_assoc->bB,take_append_drop->bD,nodup_append->bH,mem_map->bZ,map_nil->cj,mem_of_mem_take->cn,map_append->cp,eq_nil_of_length_eq_zero->cq,nodup_cons->cx,mem_map_of_mem->cH,length_eq_zero_iff->cP,getElem?_take->cQ,all_cons->cV,mem_singleton->db,getElem?_append_left->dd,getElem?_append_right->dw,take_succ_cons->dy,length_drop->dK,length_eq_one_iff->dP,mem_of_getElem?->dS,ext_getElem?->eE,flatten_cons->eH,mem_of_mem_drop->ff,getElem?_drop->fK,drop_of_length_le->fP,replicate_succ->gK,mem_or_eq_of_mem_set->gW,filter_cons->iq,getElem?_eq_none->jy,getElem?_set->jU,filter_filter->nO,drop_drop->oy,size_toArray->oz,take_left->oA,take_one->px,head?_drop->qB,length_set->qC,foldl_cons->wO,drop_left->yj,getElem?_append->yl
open List.cons renaming injEq->bY
open Nat renaming le_refl->az,le_trans->aH,zero_add->bu,lt_of_lt_of_le->bR,min_eq_left->cI,add_assoc->cO,add_zero->dx,lt_or_ge->dH,mul_le_mul_right->fM,blt->gh,beq->hX,succ_mul->j5,add_mul->ll,eq_of_beq_eq_true->l9,ble->nP,blt_eq->nR,zero_le->nU,zero_mul->rq,add_sub_cancel_left->uA
open Ne renaming symm->mR
open Option renaming map_eq_some_iff->aj,isSome_iff_exists->cy,bind_some->dY,isNone_iff_eq_none->se,some->Z,none->O
open Option.some renaming injEq->aa,inj->iF
open Prod renaming fst->cr,snd->r9
open Prod.mk renaming injEq->aC
open UInt8 renaming ofNat->dD
namespace Go.Proofs.YtgfcijiikgjbcaaGreatDoor
abbrev M.{v}(α:Type v):=List α
abbrev u.{v}(α:Type v):=Option α
abbrev z:=ByteArray
section
open Go.RowKit
inductive V where
 |int (n:Int)
 |bool (b:Bool)
 |str (s:ByteArray)
 |list (xs:List V)
 |agg (fs:List V)
mutual
def V.cnt:V->Nat
 | .int _=>1
 | .bool _=>1
 | .str _=>1
 | .list xs=>V.ab_ xs+1
 | .agg fs=>V.ab_ fs+1
def V.ab_:List V->Nat
 |[]=>0
 |f::fs=>V.cnt f+V.ab_ fs+1
end
def iH(w:World)(b o:Nat)(c:M Value):Prop:=∀j a,c[j]?=Z a->w.cell? ⟨b,o+j,O⟩=Z a
theorem pZ(b o n:Nat):(⟨b,o,O⟩:Addr).add n=⟨b,o+n,O⟩:=by
 unfold Addr.add;split
 ·rename_i h;subst h;rfl
 ·rfl
theorem iH.dL{w c:World}{b o:Nat}{d:M Value}(h:iH w b o d)(f:c.heap[b]?=w.heap[b]?):iH c b o d:=by
 intro j a e;rw[World.cell?_of_block (w:=w) f];exact h j a e
theorem iH.sub{w:World}{b o:Nat}{d:M Value}(h:iH w b o d)(j k:Nat):iH w b (o+j) ((d.drop j).take k):=by
 intro i a c;rw[cQ]at c
 split at c
 ·rw[fK]at c;rw[cO];exact h _ a c
 ·cases c
theorem HB{w:World}{b:Nat}{o:Obj}(h:w.heap[b]?=Z o):b < w.heap.size:=by
 rcases dH b w.heap.size with a|a
 ·exact a
 ·simp[vU a]at h
theorem Jz{w a:World}{b:Nat}(d:b < w.heap.size)(c:a.heap[b]?=w.heap[b]?):b < a.heap.size:=by
 rw[mO d]at c;exact HB c
structure Bv (B:Nat) (w w':World):Prop extends Below B w w' where
 Gt:∀g,B<=g->∀o,w'.frozen? ⟨g,o,none⟩=false
theorem xH{w:World}{g:Nat}(h:w.heap.size<=g)(o:Nat):w.frozen? ⟨g,o,O⟩=J:=by
 simp[World.frozen?,vU h]
theorem KH(w:World):Bv w.heap.size w w:=⟨Below.refl _ _,λ_ a o=>xH a o⟩
theorem Bv.drew{B:Nat}{a w:World}(h:Bv B a w):Bv B a w.drew:=⟨h.toBelow.drew,h.Gt⟩
theorem KG{B:Nat}{a w d:World}(h:Bv B a w)(c:Bv w.heap.size w d)(hB:B<=w.heap.size):Bv B a d:=by
 refine⟨h.toBelow.trans (c.toBelow.mono hB),λg e o=>?_⟩;rcases dH g w.heap.size with b|b
 ·rw[World.frozen?_of_block (w:=w) (c.block g b)];exact h.Gt g e o
 ·exact c.Gt g b o
theorem vX(w:World)(a:Array Value)(t:TypeId):Bv w.heap.size w (w.alloc (.cells a t)):=by
 refine⟨(Below.refl _ _).alloc (az _) _,λg b o=>?_⟩;by_cases e:g=w.heap.size
 ·subst e;unfold World.frozen?;simp only[heap_alloc_new];simp
 ·exact xH (by simp;omega) o
def kJ(w:World)(g:Nat)(t:TypeId)(a:M Value):Prop:=w.heap[g]?=Z (.cells a.toArray t (0,0))
def gF(w:World)(g:Nat)(o:Obj):World:={w with heap:=w.heap.setIfInBounds g o }
section
variable {w w':World} {g:Nat} {t:TypeId} {cs:M Value}
theorem kJ.lt(h:kJ w g t cs):g < w.heap.size:=HB h
theorem kJ.cell(h:kJ w g t cs)(i:Nat):w.cell? ⟨g,i,O⟩=cs[i]?:=by
 unfold kJ at h;simp[World.cell?,h]
theorem kJ.Oc(h:kJ w g t cs):iH w g 0 cs:=by
 intro j a b;rw[bu,h.cell,b]
theorem kJ.frozen(h:kJ w g t cs)(i:Nat):w.frozen? ⟨g,i,O⟩=J:=by
 unfold kJ at h;simp[World.frozen?,h]
theorem kJ.new(w:World)(t:TypeId)(cs:M Value):kJ (w.alloc (.cells cs.toArray t)) w.heap.size t cs:=by
 unfold kJ;exact heap_alloc_new w _
theorem kJ.dL(h:kJ w g t cs)(a:w'.heap[g]?=w.heap[g]?):kJ w' g t cs:=a.trans h
theorem kJ.alloc(h:kJ w g t cs)(o:Obj):kJ (w.alloc o) g t cs:=h.dL (Below.heap_alloc w o g h.lt)
theorem RU(w:World)(g:Nat)(o:Obj)(k:Nat)(h:k≠g):(gF w g o).heap[k]?=w.heap[k]?:=by
 simp[gF,Array.getElem?_setIfInBounds_ne (mR h)]
theorem gu(w:World)(g:Nat)(o:Obj):(gF w g o).heap.size=w.heap.size:=by simp[gF]
theorem kJ.iB(h:kJ w g t cs)(a:TypeId)(b:M Value):kJ (gF w g (.cells b.toArray a (0,0))) g a b:=by
 unfold kJ gF;simp[h.lt]
theorem BT(h:kJ w g t cs)(i:Nat)(v:Value):w.setCell ⟨g,i,O⟩ v=gF w g (.cells (cs.set i v).toArray t (0,0)):=by
 unfold World.setCell gF
 congr 1
 apply Array.ext
 ·simp
 ·intro k a c;simp only[Array.size_modify]at a;simp only[Array.getElem_modify];split
  ·rename_i e;subst e;have b:w.heap[g]'a=.cells cs.toArray t (0,0):=by
    have:=h;unfold kJ at this;rw[mO a]at this;exact iF this
   rw[b];simp
  ·rename_i e;rw[Array.getElem_setIfInBounds_ne _ e]
end
theorem kJ.drew{w:World}{g:Nat}{t:TypeId}{a:M Value}(h:kJ w g t a):kJ w.drew g t a:=h
theorem size_alloc(w:World)(o:Obj):(w.alloc o).heap.size=w.heap.size+1:=by simp
end
section
open Go.RowKit
abbrev Fm:=Nat->Value
def B3(f:Fm)(d:Nat)(v:Value):Fm:=λi=>cond (hX i d) v (f i)
def fr(f:Fm)(N:Nat):Act:=⟨Array.ofFn (λi:Fin N=>f i.val),[]⟩
theorem th(f:Fm)(N d:Nat)(v:Value):(fr f N).put (Z d) v=fr (B3 f d v) N:=by
 have e:(Array.ofFn (λi:Fin N=>f i.val)).setIfInBounds d v=Array.ofFn (λi:Fin N=>B3 f d v i.val):=by
  apply Array.ext
  ·simp
  ·intro i g a;simp only[Array.size_ofFn]at a;rw[Array.getElem_setIfInBounds (by simpa using a)];simp only[Array.getElem_ofFn,B3];by_cases h:d=i
   ·subst h;simp
   ·have c:hX i d=J:=by
     cases b:hX i d
     ·rfl
     ·exact absurd (l9 b).symm h
    simp[h,c]
 exact congrArg (λt=>Act.mk t []) e
theorem Cz(f:Fm){N d:Nat}(hd:d < N):(fr f N).eval (.tmp d)=f d:=by
 simp[fr,Act.eval,hd]
theorem et{f:Fm}{N d:Nat}{v:Value}(h:f d=v)(hd:gh d N=I:=by rfl):(fr f N).eval (.tmp d)=v:=by
 rw[Cz f (by simpa using hd)];exact h
theorem ec{f:Fm}{N:Nat}{v:Value}:(fr f N).eval (.const v)=v:=rfl
def Td(N:Nat)(c:Fm->World->Prop)(d:Nat->Fm->World->Prop)(b:Fm->World->Prop):Exit->Act->World->Prop
 | .normal,a,w=>∃f,a=fr f N/\c f w
 | .exit id,a,w=>∃f,a=fr f N/\d id f w
 | .ret,a,w=>∃f,a=fr f N/\b f w
 |_,_,_=>False
def W(P:Program)(N:Nat)(c:Code)(b:Fm->World->Prop)(d:Nat->Fm->World->Prop)(a:Fm->World->Prop)(f:Fm)(w:World):Prop:=
 c.wp P (Td N b d a) (fr f N) w
def Ls(P:Program)(N:Nat)(a:Array Oper)(b:Fm->World->Prop)(rest:M Oper)(f:Fm)(w:World):Prop:=
 wpList P a (Td N b (λ_ _ _=>False) (λ_ _=>False)) rest (fr f N) w
def qN(N:Nat)(a:Array Oper)(f:Fm)(g:u (Nat×Bool)):Prop:=
 Region.wanted {(default:Oper) with guard:=g } (yielded a (fr f N).tmps)=I
theorem wn{N:Nat}{a:Array Oper}{f:Fm}:qN N a f O:=rfl
theorem FL{N:Nat}{a:Array Oper}{f:Fm}{j c:Nat}(d:(a[j]?).bind (·.dst)=Z c)(hd:gh c N=I)(b:Bool)(e:f c=.bool b):yielded a (fr f N).tmps j=Z b:=by
 have g:c < N:=by simpa using hd
 simp[yielded,d,fr,g,e]
theorem Pk{N:Nat}{a:Array Oper}{f:Fm}{j b:Nat}(c:(a[j]?).bind (·.dst)=Z b)(hd:gh b N=I)(d:f b=undef):yielded a (fr f N).tmps j=O:=by
 have e:b < N:=by simpa using hd
 simp[yielded,c,fr,e,d,undef]
theorem wy{N:Nat}{a:Array Oper}{f:Fm}{j b:Nat}{want:Bool}(d:f b=.bool want)(c:(a[j]?).bind (·.dst)=Z b:=by rfl)(hd:gh b N=I:=by rfl):qN N a f (Z (j,want)):=by
 simp[qN,Region.wanted,FL c hd want d]
theorem qN.to{N:Nat}{a:Array Oper}{f:Fm}{gd:u (Nat×Bool)}(h:qN N a f gd)(c:u Tmp)(op:Op)(e:TypeId)(b:String)(d:Array Edge):Region.wanted ⟨c,op,e,b,d,gd⟩ (yielded a (fr f N).tmps)=I:=h
def jz(N:Nat)(a:Array Oper)(f:Fm)(g:u (Nat×Bool)):Prop:=
 Region.wanted {(default:Oper) with guard:=g } (yielded a (fr f N).tmps)=J
theorem jz.to{N:Nat}{a:Array Oper}{f:Fm}{gd:u (Nat×Bool)}(h:jz N a f gd)(c:u Tmp)(op:Op)(e:TypeId)(b:String)(d:Array Edge):¬Region.wanted ⟨c,op,e,b,d,gd⟩ (yielded a (fr f N).tmps)=I:=by
 have g:Region.wanted ⟨c,op,e,b,d,gd⟩ (yielded a (fr f N).tmps)=J:=h;rw[g];simp
theorem wx{N:Nat}{a:Array Oper}{f:Fm}{j b:Nat}{want:Bool}(d:f b=.bool (!want))(c:(a[j]?).bind (·.dst)=Z b:=by rfl)(hd:gh b N=I:=by rfl):jz N a f (Z (j,want)):=by
 simp[jz,Region.wanted,FL c hd _ d]
theorem wu{N:Nat}{a:Array Oper}{f:Fm}{j b:Nat}{want:Bool}(d:f b=undef)(c:(a[j]?).bind (·.dst)=Z b:=by rfl)(hd:gh b N=I:=by rfl):jz N a f (Z (j,want)):=by
 simp[jz,Region.wanted,Pk c hd d]
section rules
variable {P:Program} {N:Nat} {Kn:Fm->World->Prop} {Ke:Nat->Fm->World->Prop} {Kr:Fm->World->Prop} {f:Fm} {w:World}
theorem jS{x y:Code}(h:W P N x (λf w=>W P N y Kn Ke Kr f w) Ke Kr f w):W P N (.seq x y) Kn Ke Kr f w:=by
 refine wp_seq (wp_mono h ?_);intro e a w b;cases e with
 |normal=>obtain⟨g,rfl,d⟩:=b;exact d
 |exit id=>exact b
 |ret=>exact b
 |goto l=>exact b.elim
 |panic c=>exact b.elim
 |outgrown=>exact b.elim
theorem yf(h:Kn f w):W P N .skip Kn Ke Kr f w:=wp_skip ⟨f,rfl,h⟩
theorem H_(h:Kr f w):W P N .ret Kn Ke Kr f w:=wp_ret ⟨f,rfl,h⟩
theorem Ka{id:Nat}(h:Ke id f w):W P N (.exit id) Kn Ke Kr f w:=wp_exit ⟨f,rfl,h⟩
theorem Bm{c:Operand}{x y:Code}(a:(fr f N).eval c=.bool I)(h:W P N x Kn Ke Kr f w):W P N (.cond c x y) Kn Ke Kr f w:=wp_cond a h
theorem ye{c:Operand}{x y:Code}(a:(fr f N).eval c=.bool J)(h:W P N y Kn Ke Kr f w):W P N (.cond c x y) Kn Ke Kr f w:=wp_cond a h
theorem wM{id:Nat}{c:Code}(h:W P N c Kn (λb f w=>if b=id then Kn f w else Ke b f w) Kr f w):W P N (.block id c) Kn Ke Kr f w:=by
 refine wp_block (wp_mono h ?_);intro e a w d;cases e with
 |normal=>exact d
 |ret=>exact d
 |exit b=>
  obtain⟨j,rfl,g⟩:=d;simp only[Exit.inBlock]
  split at g
  ·rename_i i;rw[if_pos i];exact⟨j,rfl,g⟩
  ·rename_i i;rw[if_neg i];exact⟨j,rfl,g⟩
 |goto l=>exact d.elim
 |panic c=>exact d.elim
 |outgrown=>exact d.elim
theorem Kb{c:Code}(b:Nat->Fm->World->Prop)(n0:Nat)(o:b n0 f w)
  (round:∀n f w,b n f w->W P N c (λi j=>∃g,g < n/\b g i j) Ke Kr f w):W P N (.loop c) Kn Ke Kr f w:=by
 refine wp_loop_ghost (λn a w=>∃f,a=fr f N/\b n f w) n0 ⟨f,rfl,o⟩ ?_
 rintro n a w ⟨f,rfl,m⟩
 refine wp_mono (round n f w m) ?_;intro e a w d;cases e with
 |normal=>obtain⟨i,rfl,g,k,h⟩:=d;exact⟨g,k,i,rfl,h⟩
 |exit id=>exact d
 |ret=>exact d
 |goto l=>exact d.elim
 |panic c=>exact d.elim
 |outgrown=>exact d.elim
theorem fh{id:Nat}{l:M Oper}(h:Ls P N l.toArray Kn l f w):W P N (.region id l.toArray J) Kn Ke Kr f w:=by
 refine wp_mono (wp_region_lit h) ?_;intro e a w b;cases e with
 |normal=>exact b
 |exit id=>obtain⟨_,_,h⟩:=b;exact h.elim
 |ret=>obtain⟨_,_,h⟩:=b;exact h.elim
 |goto l=>exact b.elim
 |panic c=>exact b.elim
 |outgrown=>exact b.elim
theorem mu{c:Code}{m:Fm->World->Prop}{n:Nat->Fm->World->Prop}{k:Fm->World->Prop}(h:W P N c Kn Ke Kr f w)
  (p:∀f w,Kn f w->m f w) (q:∀i f w,Ke i f w->n i f w) (o:∀f w,Kr f w->k f w):W P N c m n k f w:=by
 refine wp_mono h ?_;intro e a w b;cases e with
 |normal=>obtain⟨j,g,d⟩:=b;exact⟨j,g,p _ _ d⟩
 |exit id=>obtain⟨j,g,d⟩:=b;exact⟨j,g,q _ _ _ d⟩
 |ret=>obtain⟨j,g,d⟩:=b;exact⟨j,g,o _ _ d⟩
 |goto l=>exact b.elim
 |panic c=>exact b.elim
 |outgrown=>exact b.elim
variable {ops:Array Oper} {rest:M Oper} {d:Nat} {op:Op} {ty:TypeId} {pos:String} {aft:Array Edge} {gd:u (Nat×Bool)}
theorem j_(h:Kn f w):Ls P N ops Kn [] f w:=⟨f,rfl,h⟩
theorem A4(a:jz N ops f gd)(h:Ls P N ops Kn rest (B3 f d undef) w):Ls P N ops Kn (⟨Z d,op,ty,pos,aft,gd⟩::rest) f w:=by
 unfold Ls wpList;rw[if_neg (a.to _ _ _ _ _),th];exact h
theorem aaf(a:jz N ops f gd)(h:Ls P N ops Kn rest f w):Ls P N ops Kn (⟨O,op,ty,pos,aft,gd⟩::rest) f w:=by
 unfold Ls wpList;rw[if_neg (a.to _ _ _ _ _)];exact h
theorem enter{g:FuncId}{j:Func}{c:Code}{args:Array Value}{R:Ending->World->Prop}(n:P.funcs[g]?=Z j)(o:j.body=Z c)(q:j.ntmps=N)(p:nP args.size N=I)
  (h:W P N c (λf w=>∃v,(results j (fr f N).tmps).run P w=.ok v w/\R (.returned v) w) (λ_ _ _=>False) (λf w=>∃v,(results j (fr f N).tmps).run P w=.ok v w/\R (.returned v) w) (λi=>args.getD i undef) w) :
  Calls P g args w R:=by
 refine calls_of_wp n o ?_;have e:({tmps:=args++qA (j.ntmps - args.size) undef,defers:=[] }:Act)=fr (λi=>args.getD i undef) N:=by
  unfold fr
  congr 1
  have s:args.size<=N:=by simpa using p
  apply Array.ext
  ·simp[q];omega
  ·intro i m k;simp only[Array.getElem_ofFn,Array.getElem_append]
   split<;>simp_all
 rw[e];refine wp_mono h ?_;intro e a w b;cases e with
 |normal=>obtain⟨r,rfl,v,m,k⟩:=b;exact⟨rfl,v,m,k⟩
 |exit id=>obtain⟨_,_,h⟩:=b;exact h.elim
 |ret=>obtain⟨r,rfl,v,m,k⟩:=b;exact⟨rfl,v,m,k⟩
 |goto l=>exact b.elim
 |panic c=>exact b.elim
 |outgrown=>exact b.elim
end rules
section drawn
variable {P:Program} {N:Nat} {Kn:Fm->World->Prop} {Ke:Nat->Fm->World->Prop} {Kr:Fm->World->Prop} {f:Fm} {w:World} {ops:Array Oper} {S:World->Prop}
def TJ(ops:Array Oper):M (Nat×Bool)->Array Bool->Bool
 |[],listed=>(Region.ready .any ops listed).isEmpty
 |(i,quiet)::s,listed=>(Region.ready .any ops listed).contains i && (if quiet then Region.free .any ops listed i else Region.ready .any ops listed ==[i]) && TJ ops s (listed.setIfInBounds i I)
def Dw(P:Program)(N:Nat)(ops:Array Oper)(S:World->Prop)(Kn:Fm->World->Prop):M (Nat×Bool)->Fm->World->Prop
 |[],f,w=>Kn f w
 |(i,quiet)::s,f,w=>if quiet then
   ∃o v a,ops[i]?=Z o/\YieldsIf P ops S o v (fr f N)/\(fr f N).put o.dst v=fr a N/\S w/\Dw P N ops S Kn s a w
  else wpOp P ops (Td N Kn (λ_ _ _=>False) (λ_ _=>False)) i (λc b=>S b/\∃a,c=fr a N/\Dw P N ops S Kn s a b) (fr f N) w
theorem K6(d:Region.noSelect ops=I):∀(s:M (Nat×Bool)) (listed:Array Bool) (f:Fm) (w:World),TJ ops s listed=I->Dw P N ops S Kn s f w->
  wpAnyH P .any ops (Td N Kn (λ_ _ _=>False) (λ_ _=>False)) S s.length listed (fr f N) w
 |[],listed,f,w,b,h=>by
  refine wpAnyH_done ?_ ⟨f,rfl,h⟩ _
  simpa [TJ] using b
 |(i,I)::s,listed,f,w,b,h=>by
  simp only[TJ,ai,if_true]at b;obtain⟨⟨e,x⟩,l⟩:=b;simp only[Dw,if_true]at h;obtain⟨o,v,k,t,p,r,g,hd⟩:=h;refine wpAnyH_take t d x e (λc a w q=>q.elim) p g ?_;rw[r];exact K6 d s _ k w l hd
 |(i,J)::s,listed,f,w,b,h=>by
  simp only[TJ,ai,aD,if_false,beq_iff_eq]at b;obtain⟨⟨_,e⟩,l⟩:=b;simp only[Dw,aD,if_false]at h;refine wpAnyH_all e (by simp) ?_;intro j m;simp only[db]at m;subst m;refine wpOp_mono ?_ h
  rintro y n ⟨g,k,rfl,hd⟩
  exact⟨g,K6 d s _ k n l hd⟩
variable {s:M (Nat×Bool)} {i d:Nat} {op:Op} {ty:TypeId} {pos:String} {aft:Array Edge} {gd:u (Nat×Bool)}
end drawn
section ops
variable {P:Program} {ρ:Operand->Value} {w:World} {dst:u Tmp} {ty:TypeId} {pos:String} {aft:Array Edge} {gd:u (Nat×Bool)}
theorem il{x:Operand}{v:Value}(a:ρ x=v):(execOp ρ ⟨dst,.move x,ty,pos,aft,gd⟩).run P w=.ok (.value v) w:=by
 subst a;rfl
theorem jJ{x:Operand}{v:Value}(a:ρ x=v):(execOp ρ ⟨dst,.assign x,ty,pos,aft,gd⟩).run P w=.ok (.value v) w:=by
 subst a;rfl
theorem MY{c x y:Operand}{v:Value}(b:ρ c=.bool I)(a:ρ x=v):(execOp ρ ⟨dst,.pick c x y,ty,pos,aft,gd⟩).run P w=.ok (.value v) w:=by
 simp[execOp,b,a,asBool]
theorem MX{c x y:Operand}{v:Value}(b:ρ c=.bool J)(a:ρ y=v):(execOp ρ ⟨dst,.pick c x y,ty,pos,aft,gd⟩).run P w=.ok (.value v) w:=by
 simp[execOp,b,a,asBool]
theorem ab0{x:Operand}{b:Bool}{T:TypeId}(a:ρ x=.bool b):(execOp ρ ⟨dst,.unOp .not T x,ty,pos,aft,gd⟩).run P w=.ok (.value (.bool (!b))) w:=by
 simp[execOp,a,Op.unary]
theorem Pv(a b:Int):(a ==b)=Z' (a=b):=by
 by_cases h:a=b<;>simp[h]
section int
variable {x y:Operand} {a b:Int} {T T':TypeId} {ik:IntKind}
theorem MW{r:Bool}(d:ρ x=.int ik a)(c:ρ y=.int ik b)(e:Z' (a < b)=r):(execOp ρ ⟨dst,.binOp .lss T x y T',ty,pos,aft,gd⟩).run P w=.ok (.value (.bool r)) w:=by
 subst e;simp[execOp,d,c,binOp,Op.intCmp,eqGuard]
theorem ai6{r:Bool}(d:ρ x=.int ik a)(c:ρ y=.int ik b)(e:Z' (a<=b)=r):(execOp ρ ⟨dst,.binOp .leq T x y T',ty,pos,aft,gd⟩).run P w=.ok (.value (.bool r)) w:=by
 subst e;simp[execOp,d,c,binOp,Op.intCmp,eqGuard]
theorem ai5{r:Bool}(d:ρ x=.int ik a)(c:ρ y=.int ik b)(e:Z' (b < a)=r):(execOp ρ ⟨dst,.binOp .gtr T x y T',ty,pos,aft,gd⟩).run P w=.ok (.value (.bool r)) w:=by
 subst e;simp[execOp,d,c,binOp,Op.intCmp,eqGuard]
theorem ai4{r:Bool}(d:ρ x=.int ik a)(c:ρ y=.int ik b)(e:Z' (b<=a)=r):(execOp ρ ⟨dst,.binOp .geq T x y T',ty,pos,aft,gd⟩).run P w=.ok (.value (.bool r)) w:=by
 subst e;simp[execOp,d,c,binOp,Op.intCmp,eqGuard]
theorem ai3{r:Bool}(d:ρ x=.int ik a)(c:ρ y=.int ik b)(e:Z' (a=b)=r):(execOp ρ ⟨dst,.binOp .eql T x y T',ty,pos,aft,gd⟩).run P w=.ok (.value (.bool r)) w:=by
 subst e;simp[execOp,d,c,binOp,Op.intCmp,eqGuard];exact Pv a b
theorem ai7{r:Bool}(d:ρ x=.int ik a)(c:ρ y=.int ik b)(e:Z' (a=b)=!r):(execOp ρ ⟨dst,.binOp .neq T x y T',ty,pos,aft,gd⟩).run P w=.ok (.value (.bool r)) w:=by
 have:r=!Z' (a=b):=by rw[e];simp
 subst this;simp[execOp,d,c,binOp,Op.intCmp,eqGuard,bne];exact Pv a b
theorem Rh(d:ρ x=.int .i64 a)(c:ρ y=.int .i64 b)(e:-9223372036854775808<=a+b/\a+b<=9223372036854775807):(execOp ρ ⟨dst,.binOp .add T x y T',ty,pos,aft,gd⟩).run P w=.ok (.value (.int .i64 (a+b))) w:=by
 simp[execOp,d,c,binOp,Op.intArith,eqGuard];exact IntWalk.i64_in _ (by omega)
end int
theorem oD(a b:z):(a.toList ==b.toList)=Z' (a=b):=by
 rw[dC];simp only[beq_iff_eq,decide_eq_true_eq,ByteArray.toList_eq]
 constructor
 ·intro h;cases a;cases b;simp at h;simp[h]
 ·rintro rfl;rfl
section str
variable {x y:Operand} {a b:z} {T T':TypeId}
theorem aeL{r:Bool}(d:ρ x=.string a)(c:ρ y=.string b)(e:Z' (a=b)=r):(execOp ρ ⟨dst,.binOp .eql T x y T',ty,pos,aft,gd⟩).run P w=.ok (.value (.bool r)) w:=by
 subst e;simp[execOp,d,c,binOp,Op.stringOp,eqGuard,oD]
theorem aeN{r:Bool}(d:ρ x=.string a)(c:ρ y=.string b)(e:Z' (a=b)=!r):(execOp ρ ⟨dst,.binOp .neq T x y T',ty,pos,aft,gd⟩).run P w=.ok (.value (.bool r)) w:=by
 have:r=!Z' (a=b):=by rw[e];simp
 subst this;simp[execOp,d,c,binOp,Op.stringOp,eqGuard,oD]
end str
section lr
variable {x y:Operand} {a b:Bool} {T T':TypeId}
theorem aeJ{r:Bool}(g:P.underlying T=Z .bool)(d:ρ x=.bool a)(c:ρ y=.bool b)(f:Z' (a=b)=r):(execOp ρ ⟨dst,.binOp .eql T x y T',ty,pos,aft,gd⟩).run P w=.ok (.value (.bool r)) w:=by
 have e:(a ==b)=r:=by subst f;cases a<;>cases b<;>rfl
 simp[execOp,d,c,eqGuard,run_eql_bool w T a b g,e]
theorem aeK{r:Bool}(f:P.underlying T=Z .bool)(d:ρ x=.bool a)(c:ρ y=.bool b)(g:Z' (a=b)=!r):(execOp ρ ⟨dst,.binOp .neq T x y T',ty,pos,aft,gd⟩).run P w=.ok (.value (.bool r)) w:=by
 have e:(a ==b)=!r:=by cases a<;>cases b<;>cases r<;>simp_all
 simp[execOp,d,c,eqGuard,run_neq_bool w T a b f,e]
end lr
theorem Ia{x:Operand}{A:u Addr}{n c:Nat}{T a:TypeId}(d:P.underlying T=Z (.slice a))(b:ρ x=.slice A n c) :
  (execOp ρ ⟨dst,.call {callee:=.builtin .len,args:=#[x],argTypes:=#[T] },ty,pos,aft,gd⟩).run P w=.ok (.value (.int .i64 n)) w:=by
 simp[execOp,resolve,invoke,builtin,Builtin.len_,b,run_underlying d,goInt]
theorem aeM{x:Operand}{s:z}{T:TypeId}(b:P.underlying T=Z .string)(a:ρ x=.string s) :
  (execOp ρ ⟨dst,.call {callee:=.builtin .len,args:=#[x],argTypes:=#[T] },ty,pos,aft,gd⟩).run P w=.ok (.value (.int .i64 s.size)) w:=by
 simp[execOp,resolve,invoke,builtin,Builtin.len_,a,run_underlying b,goInt]
theorem tU{x y:Operand}{b o n c:Nat}{i:Nat}{a:Int}{T d:TypeId}{k:Nat}(j:P.underlying T=Z (.slice d))(l:∀w,(mP d).run P w=.ok k w)(f:ρ x=.slice (Z ⟨b,o,O⟩) n c)(e:ρ y=.int .i64 a)(h:a=(i:Int))(g:i < n) :
  (execOp ρ ⟨dst,.indexAddr T x y,ty,pos,aft,gd⟩).run P w=.ok (.value (.pointer (Z ⟨b,o+i * k,O⟩))) w:=by
 subst h;have m:(0:Int)<=(i:Int)/\(i:Int) < (n:Int):=by omega
 simp[execOp,Instr.indexAt,f,e,asIntOf,run_underlying j,l,pZ,g]
theorem Yd{x y:Operand}{A:u Addr}{b o n c:Nat}{i:Nat}{a:Int}{T d:TypeId}{k:Nat}(j:P.underlying T=Z (.slice d))(l:∀w,(mP d).run P w=.ok k w)(f:ρ x=.slice A n c)(m:A=Z ⟨b,o,O⟩)(e:ρ y=.int .i64 a)(h:a=(i:Int))(g:i < n) :
  (execOp ρ ⟨dst,.indexAddr T x y,ty,pos,aft,gd⟩).run P w=.ok (.value (.pointer (Z ⟨b,o+i * k,O⟩))) w:=tU j l (f.trans (by rw[m])) e h g
def eA(s:z)(i:Nat):Int:=((s[i]?.getD 0).toNat:Int)
theorem sU(s:z)(i:Nat):0<=eA s i/\eA s i<=255:=by
 unfold eA;have:=(s[i]?.getD 0).toNat_lt;omega
theorem Ye{x y:Operand}{s:z}{i:Nat}{a:Int}{T:TypeId}(f:P.underlying T=Z .string)(c:ρ x=.string s)(b:ρ y=.int .i64 a)(e:a=(i:Int))(d:i < s.size) :
  (execOp ρ ⟨dst,.index T x y,ty,pos,aft,gd⟩).run P w=.ok (.value (.int .u8 (eA s i))) w:=by
 subst e;simp[execOp,Instr.index,c,b,asIntOf,run_underlying f,eA,d]
theorem Ri{x:Operand}{b o j k:Nat}{T:TypeId}{fs:Array Field}{i:Nat}{a:Field}(e:P.underlying T=Z (.struct fs))(g:fs[i]?=Z a)(f:∀w,(mP a.type).run P w=.ok (k+1) w)(d:a.offset=j)(c:ρ x=.pointer (Z ⟨b,o,O⟩)) :
  (execOp ρ ⟨dst,.fieldAddr T x i,ty,pos,aft,gd⟩).run P w=.ok (.value (.pointer (Z ⟨b,o+j,O⟩))) w:=by
 subst d;simp[execOp,Instr.fieldAt,c,Instr.sureAddr,run_underlying e,g,fieldPlace,f,pZ]
theorem Pj{x y:Operand}{A:u Addr}{n c h:Nat}{a:Int}{T d:TypeId}{k:Nat}(l:P.underlying T=Z (.slice d))(m:∀w,(mP d).run P w=.ok k w)(g:ρ x=.slice A n c)(f:ρ y=.int .i64 a)(j:a=(h:Int))(i:h<=c) :
  (execOp ρ ⟨dst,.slice T x O (Z y) O,ty,pos,aft,gd⟩).run P w=.ok (.value (.slice A h c)) w:=by
 subst j;have e:A.map (λb=>b.add 0)=A:=by cases A<;>simp[Addr.add]
 simp[execOp,Instr.sliceAt,Instr.slice,Instr.sliceBounds,Instr.sliceBound,g,f,asIntOf,run_underlying l,m,i,e]
def Ni(ρ:Operand->Value):u Operand->Nat->Nat->Prop
 |none,a,m=>m=a
 |some y,_,m=>ρ y=.int .i64 (m:Int)
theorem FK{x:Operand}{m g:u Operand}{A:u Addr}{n c l h:Nat}{T b:TypeId}{k:Nat}(i:P.underlying T=Z (.slice b))(j:∀w,(mP b).run P w=.ok k w)(f:ρ x=.slice A n c)(d:Ni ρ m 0 l)(e:Ni ρ g n h)(p:l<=h)(o:h<=c) :
  (execOp ρ ⟨dst,.slice T x m g O,ty,pos,aft,gd⟩).run P w=.ok (.value (.slice (if c=l then A else A.map (λa=>a.add (l * k))) (h - l) (c - l))) w:=by
 cases m with
 |none=>
  cases g with
  |none=>simp only[Ni]at d e;subst d e;simp[execOp,Instr.sliceAt,Instr.slice,Instr.sliceBounds,f,run_underlying i,j]
  |some a=>simp only[Ni]at d e;subst d;simp[execOp,Instr.sliceAt,Instr.slice,Instr.sliceBounds,Instr.sliceBound,f,e,asIntOf,run_underlying i,j,o]
 |some y=>
  cases g with
  |none=>simp only[Ni]at d e;subst e;simp[execOp,Instr.sliceAt,Instr.slice,Instr.sliceBounds,Instr.sliceBound,f,d,asIntOf,run_underlying i,j,p]
  |some a=>simp only[Ni]at d e;simp[execOp,Instr.sliceAt,Instr.slice,Instr.sliceBounds,Instr.sliceBound,f,d,e,asIntOf,run_underlying i,j,p,o]
theorem Yf{x:Operand}{g e:u Operand}{t:z}{l h:Nat}{T:TypeId}(f:P.underlying T=Z .string)(d:ρ x=.string t)(b:Ni ρ g 0 l)(c:Ni ρ e t.size h)(j:l<=h)(i:h<=t.size) :
  (execOp ρ ⟨dst,.slice T x g e O,ty,pos,aft,gd⟩).run P w=.ok (.value (.string (t.extract l h))) w:=by
 cases g with
 |none=>
  cases e with
  |none=>simp only[Ni]at b c;subst b c;simp[execOp,Instr.sliceAt,Instr.slice,Instr.sliceBounds,d,run_underlying f]
  |some a=>simp only[Ni]at b c;subst b;simp[execOp,Instr.sliceAt,Instr.slice,Instr.sliceBounds,Instr.sliceBound,d,c,asIntOf,run_underlying f,i]
 |some y=>
  cases e with
  |none=>simp only[Ni]at b c;subst c;simp[execOp,Instr.sliceAt,Instr.slice,Instr.sliceBounds,Instr.sliceBound,d,b,asIntOf,run_underlying f,j]
  |some a=>simp only[Ni]at b c;simp[execOp,Instr.sliceAt,Instr.slice,Instr.sliceBounds,Instr.sliceBound,d,b,c,asIntOf,run_underlying f,j,i]
theorem Kf{x:Operand}{b o:Nat}{T:TypeId}{v:Value}(d:∀w,(isAgg T).run P w=.ok J w)(a:ρ x=.pointer (Z ⟨b,o,O⟩))(c:w.cell? ⟨b,o,O⟩=Z v) :
  (execOp ρ ⟨dst,.load T x,ty,pos,aft,gd⟩).run P w=.ok (.value v) w:=by
 simp[execOp,Instr.loadAt,a,Instr.sureAddr,loadVar,d,load,Sem.run,c]
theorem run_loadCellsFrom{b o:Nat}:∀(e:M Value) (i:Nat) (d:Array Value),iH w b (o+i) e->(loadCellsFrom ⟨b,o,O⟩ i e.length d).run P w=.ok (d++e.toArray) w
 |[],i,d,_=>by simp[loadCellsFrom]
 |c::e,i,d,h=>by
  have f:=h 0 c (by simp);rw[dx]at f;have g:=run_loadCellsFrom e (i+1) (d.push c) (λj a k=>by
   have:=h (j+1) a (by simpa using k);rw[show o+(i+1)+j=o+i+(j+1) from by omega];exact this)
  simp[loadCellsFrom,load,Sem.run,pZ,f,g]
theorem Kg{x:Operand}{b o:Nat}{T:TypeId}{a:M Value}{k:Nat}(g:∀w,(isAgg T).run P w=.ok I w)(f:∀w,(mP T).run P w=.ok k w)(c:ρ x=.pointer (Z ⟨b,o,O⟩))(d:a.length=k)(e:iH w b o a) :
  (execOp ρ ⟨dst,.load T x,ty,pos,aft,gd⟩).run P w=.ok (.value (.agg a.toArray)) w:=by
 subst d;have h:=run_loadCellsFrom (P:=P) (w:=w) (b:=b) (o:=o) a 0 #[] (by simpa using e);simp[execOp,Instr.loadAt,c,Instr.sureAddr,loadVar,g,f,loadCells,h]
def one:Value->Bool
 | .agg _=>J
 | .tuple _=>J
 |_=>I
theorem Ff{g i:Nat}{t:TypeId}{a:M Value}{v:Value}{c:Type}(k:Sem c)(b:kJ w g t a)(d:i < a.length)(h:one v=I) :
  (Sem.store .plain ⟨g,i,O⟩ v k).run P w=k.run P (gF w g (.cells (a.set i v).toArray t (0,0))):=by
 have f:w.cell? ⟨g,i,O⟩=Z a[i]:=by rw[b.cell];simp[d]
 have e:=b.frozen i;rw[<- BT b];cases v<;>simp_all[Sem.run,one]
theorem abm{x y:Operand}{g o:Nat}{T t:TypeId}{a:M Value}{v:Value}(h:∀w,(mP T).run P w=.ok 1 w)(c:ρ x=.pointer (Z ⟨g,o,O⟩))(b:ρ y=v)(i:one v=I)(f:kJ w g t a)(d:o < a.length) :
  (execOp ρ ⟨dst,.store T x y,ty,pos,aft,gd⟩).run P w=.ok .skip (gF w g (.cells (a.set o v).toArray t (0,0))):=by
 have e:v.cells=#[v]:=by cases v<;>simp_all[Value.cells,one]
 simp[execOp,Instr.storeAt,c,b,Instr.sureAddr,storeVar,h,e,storeCells,store,Addr.add,Ff _ f d i]
def cL(b:M Value)(i:Nat)(a:M Value):M Value:=b.take i++a++b.drop (i+a.length)
theorem sN(w:World)(g:Nat)(o a:Obj):gF (gF w g o) g a=gF w g a:=by
 simp[gF]
theorem vQ(b:M Value)(i:Nat)(v:Value)(a:M Value)(h:i+(a.length+1)<=b.length):cL (b.set i v) (i+1) a=cL b i (v::a):=by
 unfold cL
 apply eE
 intro k;simp only[yl,a_,bj,qC,aG,cQ,jU,fK,List.getElem?_cons]
 grind
theorem nN{g:Nat}{t:TypeId}{o:Nat}:∀(c:M Value) (i:Nat) (w:World) (b:M Value),kJ w g t b->o+i+c.length<=b.length->(∀v∈c,one v=I)->
  (storeCells ⟨g,o,O⟩ c i).run P w=.ok () (gF w g (.cells (cL b (o+i) c).toArray t (0,0)))
 |[],i,w,b,d,_,_=>by
  have:gF w g (.cells (cL b (o+i) []).toArray t (0,0))=w:=by
   have f:=d;unfold kJ at f;simp only[cL,aJ,aP,dx,bD];have q:=d.lt;unfold gF;have:w.heap.setIfInBounds g (.cells b.toArray t (0,0))=w.heap:=by
    apply Array.ext
    ·simp
    ·intro k h p;rw[Array.getElem_setIfInBounds];split
     ·rename_i e;subst e;rw[mO p]at f;exact (iF f).symm
     ·rfl
   rw[this]
  simp[storeCells,this]
 |v::c,i,w,b,d,n,h=>by
  simp only[aG]at n;have m:(b.set (o+i) v).length=b.length:=by simp
  have j:=nN (o:=o) c (i+1) (gF w g (.cells (b.set (o+i) v).toArray t (0,0))) (b.set (o+i) v) (d.iB t _) (by rw[m];omega) (λa l=>h a (by simp[l]));rw[sN,show o+(i+1)=o+i+1 from by omega,vQ b (o+i) v c (by omega)]at j;simp only[storeCells,store,pZ];have f:=Ff (P:=P) (Sem.pure ()) d (show o+i < b.length by omega) (h v (by simp));simp only[Sem.run_bind,f,Sem.run,Result.andThen_ok];exact j
theorem yh{F:FuncId}{as:Array Operand}{ts:Array TypeId}{a:Array Value}(d:∀(args:Array Value) (w:World),(callFunc F args).run P w=.ok (.enter F args) w)(c:ρ (.func F)=.func (.func F) #[] #[])(b:as.map ρ=a) :
  (execOp ρ ⟨dst,.call {callee:=.value (.func F),args:=as,argTypes:=ts },ty,pos,aft,gd⟩).run P w=.ok (.enter F a) w:=by
 subst b;simp[execOp,resolve,Deferred.ofValue,c,invoke,d]
theorem a1{x:Operand}{a:Value}(h:ρ x=a):(#[x]:Array Operand).map ρ=#[a]:=by simp[h]
theorem a2{x y:Operand}{a v:Value}(h:ρ x=a)(b:ρ y=v):(#[x,y]:Array Operand).map ρ=#[a,v]:=by simp[h,b]
theorem a3{x y a:Operand}{b v q:Value}(h:ρ x=b)(d:ρ y=v)(c:ρ a=q):(#[x,y,a]:Array Operand).map ρ=#[b,v,q]:=by simp[h,d,c]
theorem a4{x y a t:Operand}{b v q r:Value}(h:ρ x=b)(e:ρ y=v)(d:ρ a=q)(c:ρ t=r):(#[x,y,a,t]:Array Operand).map ρ=#[b,v,q,r]:=by simp[h,e,d,c]
theorem a5{x y a t s:Operand}{b v q r p:Value}(h:ρ x=b)(f:ρ y=v)(e:ρ a=q)(d:ρ t=r)(c:ρ s=p):(#[x,y,a,t,s]:Array Operand).map ρ=#[b,v,q,r,p]:=by simp[h,f,e,d,c]
theorem TA{x:Operand}{a:Array Value}{i:Nat}{v:Value}(b:ρ x=.tuple a)(c:a[i]?=Z v):(execOp ρ ⟨dst,.extract x i,ty,pos,aft,gd⟩).run P w=.ok (.value v) w:=by
 simp[execOp,Instr.extract,b,c]
end ops
theorem abu{p:Prop}[Decidable p](h:p):decide p=I:=by simp[h]
theorem abt{p:Prop}[Decidable p](h:¬p):decide p=J:=by simp[h]
theorem abj{k:IntKind}{a b:Int}(h:a=b):Value.int k a=Value.int k b:=by rw[h]
section alN
variable {P:Program} {N:Nat} {f:Fm} {w:World} {fn:Func}
theorem HO{t:Tmp}{v:Value}(h:fn.results=#[.tmp t])(a:f t=v)(b:gh t N=I:=by rfl):(results fn (fr f N).tmps).run P w=.ok v w:=by
 have c:t < N:=by simpa using b
 rw[results_tmp h];simp[fr,c,a]
end alN
def ui(P:Program)(N:Nat)(o:Oper)(f:Fm)(w:World)(K:Fm->World->Prop):Prop:=
 o.wp P (fr f N) w (λc b=>∃a,c=fr a N/\K a b) (λ_ _ _=>False)
structure GB (g:Nat) (w w':World):Prop where
 os:w'.os=w.os
 tape:w'.tape=w.tape
 output:w'.output=w.output
 size:w'.heap.size=w.heap.size
 block:∀k,k≠g->w'.heap[k]?=w.heap[k]?
 fz:∀o,w'.frozen? ⟨g,o,none⟩=false
theorem GB.gF(w:World)(g:Nat)(c:Array Value)(t:TypeId):GB g w (gF w g (.cells c t (0,0))):=by
 refine⟨rfl,rfl,rfl,gu w g _,λk b=>RU w g _ k b,λo=>?_⟩;rcases dH g w.heap.size with a|a
 ·simp[World.frozen?,Go.Proofs.YtgfcijiikgjbcaaGreatDoor.gF,a]
 ·exact xH (by rw[gu];exact a) o
theorem Rw{B:Nat}{a w c:World}{g:Nat}(h:Bv B a w)(b:GB g w c)(f:B<=g):Bv B a c:=by
 refine⟨h.toBelow.trans ⟨b.os,b.tape,b.output,by rw[b.size];exact az _,λk d=>b.block k (by omega)⟩,λk d o=>?_⟩;by_cases e:k=g
 ·subst e;exact b.fz o
 ·rw[World.frozen?_of_block (w:=w) (b.block k e)];exact h.Gt k d o
theorem kJ.off{w a:World}{g k:Nat}{t:TypeId}{b:M Value}(h:kJ w g t b)(d:GB k w a)(c:g≠k):kJ a g t b:=h.dL (d.block g c)
section
variable {P:Program} {N:Nat} {ops:Array Oper} {Kn:Fm->World->Prop} {rest:M Oper} {f:Fm} {w:World} {o:Oper} {S:World->Prop} {s:M (Nat×Bool)} {i:Nat} {K:Fm->World->Prop}
theorem ui.aeB{Q:Exit->Act->World->Prop}{p:Act->World->Prop}(h:ui P N o f w K)(k:∀b l,K b l->p (fr b N) l):o.wp P (fr f N) w p Q:=by
 unfold ui Oper.wp at h;unfold Oper.wp;generalize (execOp (fr f N).eval o).run P w=r at *;cases r with
 |ok n l=>
  cases n<;>simp only[Oper.upon]at h ⊢
  case value v=>obtain⟨b,e,a⟩:=h;rw[e];exact k _ _ a
  case skip=>obtain⟨b,e,a⟩:=h;rw[e];exact k _ _ a
  case defer d=>obtain⟨b,e,a⟩:=h;rw[e];exact k _ _ a
  case enter g args=>
   refine Calls.mono h λe m j=>?_;cases e with
   |returned v=>obtain⟨b,e,a⟩:=j;show p _ _;rw[e];exact k _ _ a
   |panicked c=>exact j.elim
   |outgrown=>obtain⟨_,_,h⟩:=j;exact h.elim
  case row r args=>exact Rows.mono h λv m j=>by obtain⟨b,e,a⟩:=j;rw[e];exact k _ _ a
 |halt x l=>
  cases x<;>simp only[Oper.upon]at h
theorem gq(c:qN N ops f o.guard)(h:ui P N o f w (λd a=>Ls P N ops Kn rest d a)):Ls P N ops Kn (o::rest) f w:=by
 unfold Ls wpList;rw[if_pos (show Region.wanted o _=I from c)];exact .inl (h.aeB λ_ _ b=>b)
end
section
variable {P:Program} {N:Nat} {f:Fm} {w:World} {K:Fm->World->Prop} {d:Nat} {ty:TypeId} {pos:String} {aft:Array Edge} {gd:u (Nat×Bool)}
theorem eu{op:Op}{v:Value}(a:(execOp (fr f N).eval ⟨Z d,op,ty,pos,aft,gd⟩).run P w=.ok (.value v) w)(h:K (B3 f d v) w):ui P N ⟨Z d,op,ty,pos,aft,gd⟩ f w K:=by
 unfold ui Oper.wp;rw[a,Oper.upon_value];exact⟨_,th f N d v,h⟩
theorem vE{op:Op}{v:Value}{a:World}(b:(execOp (fr f N).eval ⟨Z d,op,ty,pos,aft,gd⟩).run P w=.ok (.value v) a)(h:K (B3 f d v) a):ui P N ⟨Z d,op,ty,pos,aft,gd⟩ f w K:=by
 unfold ui Oper.wp;rw[b,Oper.upon_value];exact⟨_,th f N d v,h⟩
theorem JH{op:Op}{a:World}(b:(execOp (fr f N).eval ⟨O,op,ty,pos,aft,gd⟩).run P w=.ok .skip a)(h:K f a):ui P N ⟨O,op,ty,pos,aft,gd⟩ f w K:=by
 unfold ui Oper.wp;rw[b,Oper.upon_skip];exact⟨_,rfl,h⟩
theorem xV{op:Op}{g:FuncId}{args:Array Value}(b:(execOp (fr f N).eval ⟨Z d,op,ty,pos,aft,gd⟩).run P w=.ok (.enter g args) w){R:Ending->World->Prop}(j:Calls P g args w R)
  (h:∀e a,R e a->∃v,e=.returned v/\K (B3 f d v) a):ui P N ⟨Z d,op,ty,pos,aft,gd⟩ f w K:=by
 unfold ui Oper.wp;rw[b,Oper.upon_enter];refine j.mono λe a i=>?_;obtain⟨v,rfl,c⟩:=h e a i;exact⟨_,th f N d v,c⟩
theorem HJ{op:Op}{T:TypeId}{b:M Value}{v:Value}(c:(execOp (fr f N).eval ⟨Z d,op,ty,pos,aft,gd⟩).run P w=.ok (.value v) (w.alloc (.cells b.toArray T)))
  (h:∀a:World,a.heap.size=w.heap.size+1->Bv w.heap.size w a->kJ a w.heap.size T b->K (B3 f d v) a):ui P N ⟨Z d,op,ty,pos,aft,gd⟩ f w K:=
 vE c (h _ (size_alloc _ _) (vX _ _ _) (kJ.new _ _ _))
end
attribute [irreducible] ui Ls W Dw
end
section
open Go.RowKit
inductive D where
 |int (k:IntKind) (n:Int)
 |bool (b:Bool)
 |str (s:ByteArray)
 |list (k:Nat) (fl:Bool) (es:List (List D))
abbrev E(n:Int):D:=.int .i64 n
instance:Inhabited D:=⟨.bool J⟩
def D.plain:D->Bool
 | .list _ _ _=>J
 |_=>I
def flat(es:M (M D)):Prop:=∀e∈es,∀x∈e,D.plain x=I
theorem jC:flat []:=λ_ h=>by simp at h
abbrev Fp:=M (Nat×Nat)
mutual
def Rp(w:World):D->Value->Fp->Prop
 | .int k n,v,F=>v=.int k n/\F=[]/\k.wrap n=n
 | .bool b,v,F=>v=.bool b/\F=[]
 | .str s,v,F=>v=.string s/\F=[]/\s.size<=maxLen
 | .list k j es,v,F=>∃A n c,v=.slice A n c/\n=es.length/\n<=c/\c<=maxLen/\(j=I->flat es)/\0 < k/\(∀e∈es,e.length=k)/\
   ((n=0/\F=[])\/(0 < n/\∃b o h G,A=Z ⟨b,o,O⟩/\F=(b,o+n * k)::G/\fy w es h G/\iH w b o h))
def fE(w:World):List D->List Value->Fp->Prop
 |[],a,F=>a=[]/\F=[]
 |d::l,a,F=>∃v i g f,a=v::i/\F=g++f/\Rp w d v g/\fE w l i f
def fy(w:World):List (List D)->List Value->Fp->Prop
 |[],a,F=>a=[]/\F=[]
 |e::es,a,F=>∃v1 v2 g f,a=v1++v2/\F=g++f/\fE w e v1 g/\fy w es v2 f
end
def uE(F:Fp)(w b:World):Prop:=∀a∈F,∀j,j < a.2->b.cell? ⟨a.1,j,O⟩=w.cell? ⟨a.1,j,O⟩
theorem uE.left{F G:Fp}{w a:World}(h:uE (F++G) w a):uE F w a:=λc b=>h c (by simp[b])
theorem uE.right{F G:Fp}{w a:World}(h:uE (F++G) w a):uE G w a:=λc b=>h c (by simp[b])
theorem fE.length{w:World}:∀(a:M D) {b:M Value} {F:Fp},fE w a b F->b.length=a.length
 |[],_,_,h=>by simp only[fE]at h;simp[h.1]
 |d::a,_,_,h=>by
  simp only[fE]at h;obtain⟨v,e,g,f,rfl,_,_,c⟩:=h;simp[fE.length a c]
theorem fy.length{w:World}{k:Nat}:∀(es:M (M D)) {a:M Value} {F:Fp},fy w es a F->(∀e∈es,e.length=k)->a.length=es.length * k
 |[],_,_,h,_=>by simp only[fy]at h;simp[h.1]
 |e::es,_,_,h,b=>by
  simp only[fy]at h;obtain⟨v1,v2,i,g,rfl,_,f,d⟩:=h;simp only[a_,aG,fE.length e f,fy.length es d (λx c=>b x (by simp[c])),b e (by simp),j5];omega
theorem iH.agE{w d:World}{b o n:Nat}{c:M Value}(h:iH w b o c)(g:o+c.length<=n)(f:∀j,j < n->d.cell? ⟨b,j,O⟩=w.cell? ⟨b,j,O⟩):iH d b o c:=by
 intro j a e;have i:=(bh.1 e).1;rw[f (o+j) (by omega)];exact h j a e
mutual
theorem Rp.dL{w a:World}:∀(d:D) {v:Value} {F:Fp},Rp w d v F->uE F w a->Rp a d v F
 | .int _ _,_,_,h,_=>by simpa only [Rp] using h
 | .bool _,_,_,h,_=>by simpa only [Rp] using h
 | .str _,_,_,h,_=>by simpa only [Rp] using h
 | .list k S es,_,_,h,f=>by
  simp only[Rp]at h ⊢;obtain⟨A,n,c,m,x,l,j,C,L,t,i⟩:=h;refine⟨A,n,c,m,x,l,j,C,L,t,?_⟩;rcases i with i|⟨N,b,o,y,G,i,K,s,R⟩
  ·exact .inl i
  ·subst K;have B:=fy.length es s t;refine .inr ⟨N,b,o,y,G,i,rfl,fy.dL es s (λQ H=>f Q (by simp[H])),?_⟩;exact R.agE (n:=o+n * k) (by rw[B,x];exact az _) (f (b,o+n * k) (by simp))
theorem fE.dL{w a:World}:∀(p:List D) {g:List Value} {F:Fp},fE w p g F->uE F w a->fE a p g F
 |[],_,_,h,_=>by simpa only [fE] using h
 |d::p,_,_,h,f=>by
  simp only[fE]at h ⊢;obtain⟨v,P,r,q,m,rfl,l,j⟩:=h;exact⟨v,P,r,q,m,rfl,Rp.dL d l f.left,fE.dL p j f.right⟩
theorem fy.dL{w a:World}:∀(es:List (List D)) {g:List Value} {F:Fp},fy w es g F->uE F w a->fy a es g F
 |[],_,_,h,_=>by simpa only [fy] using h
 |e::es,_,_,h,f=>by
  simp only[fy]at h ⊢;obtain⟨v1,v2,r,q,m,rfl,l,j⟩:=h;exact⟨v1,v2,r,q,m,rfl,fE.dL e l f.left,fy.dL es j f.right⟩
end
theorem Oe{w:World}{b o:Nat}{v:Value}(h:w.cell? ⟨b,o,O⟩=Z v):b < w.heap.size:=by
 unfold World.cell? at h;rcases dH b w.heap.size with a|a
 ·exact a
 simp_all
mutual
theorem Rp.lt{w:World}:∀(d:D) {v:Value} {F:Fp},Rp w d v F->∀f∈F,f.1 < w.heap.size
 | .int _ _,_,_,h=>by simp only[Rp]at h;simp[h.2.1]
 | .bool _,_,_,h=>by simp only[Rp]at h;simp[h.2]
 | .str _,_,_,h=>by simp only[Rp]at h;simp[h.2.1]
 | .list k R es,_,_,h=>by
  simp only[Rp]at h;obtain⟨A,n,c,r,H,j,i,Q,C,B,g⟩:=h;rcases g with g|⟨K,b,o,p,G,g,y,q,L⟩
  ·simp[g.2]
  ·subst y;have t:=fy.length es q B;have s:0 < p.length:=by rw[t,<- H];exact Nat.mul_pos K C
   have x:=Oe (L 0 p[0] (by simp[s]));intro f a;rcases aI.1 a with rfl|a
   ·exact x
   ·exact fy.lt es q f a
theorem fE.lt{w:World}:∀(m:List D) {l:List Value} {F:Fp},fE w m l F->∀f∈F,f.1 < w.heap.size
 |[],_,_,h=>by simp only[fE]at h;simp[h.2]
 |d::m,_,_,h=>by
  simp only[fE]at h;obtain⟨v,S,P,N,r,rfl,j,i⟩:=h;intro f a;rcases aT.1 a with a|a
  ·exact Rp.lt d j f a
  ·exact fE.lt m i f a
theorem fy.lt{w:World}:∀(es:List (List D)) {l:List Value} {F:Fp},fy w es l F->∀f∈F,f.1 < w.heap.size
 |[],_,_,h=>by simp only[fy]at h;simp[h.2]
 |e::es,_,_,h=>by
  simp only[fy]at h;obtain⟨v1,v2,P,N,r,rfl,j,i⟩:=h;intro f a;rcases aT.1 a with a|a
  ·exact fE.lt e j f a
  ·exact fy.lt es i f a
end
theorem fE.append{w:World}:∀(a:M D) {es:M D} {c e:M Value} {F G:Fp},fE w a c F->fE w es e G->fE w (a++es) (c++e) (F++G)
 |[],_,_,_,_,_,h,b=>by
  simp only[fE]at h;obtain⟨rfl,rfl⟩:=h
  simpa using b
 |d::a,_,_,_,_,_,h,b=>by
  obtain⟨v,j,i,k,rfl,rfl,g,f⟩:=h;exact⟨v,_,i,_,rfl,by simp,g,fE.append a f b⟩
theorem fy.append{w:World}:∀(a:M (M D)) {es:M (M D)} {c e:M Value} {F G:Fp},fy w a c F->fy w es e G->fy w (a++es) (c++e) (F++G)
 |[],_,_,_,_,_,h,b=>by
  simp only[fy]at h;obtain⟨rfl,rfl⟩:=h
  simpa using b
 |d::a,_,_,_,_,_,h,b=>by
  obtain⟨v1,v2,i,j,rfl,rfl,g,f⟩:=h;exact⟨v1,_,i,_,by simp,by simp,g,fy.append a f b⟩
theorem fE.gk{w:World}:∀(c:M D) {es:M D} {b:M Value} {F:Fp},fE w (c++es) b F->∃v1 v2 a e,b=v1++v2/\F=a++e/\fE w c v1 a/\fE w es v2 e
 |[],es,b,F,h=>⟨[],b,[],F,rfl,rfl,by simp[fE],by simpa using h⟩
 |d::c,_,_,_,h=>by
  simp only[au,fE]at h;obtain⟨v,n,a,e,rfl,rfl,m,l⟩:=h;obtain⟨f,i,g,G2,rfl,rfl,k,j⟩:=fE.gk c l;exact⟨v::f,i,a++g,G2,by simp,by simp,by simp only[fE];exact⟨v,f,a,g,rfl,rfl,m,k⟩,j⟩
theorem fy.gk{w:World}:∀(c:M (M D)) {es:M (M D)} {b:M Value} {F:Fp},fy w (c++es) b F->∃v1 v2 a e,b=v1++v2/\F=a++e/\fy w c v1 a/\fy w es v2 e
 |[],es,b,F,h=>⟨[],b,[],F,rfl,rfl,by simp[fy],by simpa using h⟩
 |d::c,_,_,_,h=>by
  simp only[au,fy]at h;obtain⟨v1,v2,a,e,rfl,rfl,m,l⟩:=h;obtain⟨f,i,g,G2,rfl,rfl,k,j⟩:=fy.gk c l;exact⟨v1++f,i,a++g,G2,by simp,by simp,by simp only[fy];exact⟨v1,f,a,g,rfl,rfl,m,k⟩,j⟩
theorem fy.at_{w:World}{k:Nat}{es:M (M D)}{b:M Value}{F:Fp}(h:fy w es b F)(c:∀e∈es,e.length=k){i:Nat}{e:M D}(a:es[i]?=Z e) :
  ∃G,fE w e ((b.drop (i * k)).take k) G/\∀g∈G,g∈F:=by
 have v:=(bh.1 a).1;have o:es=es.take i++(e::es.drop (i+1)):=by
  rw[<- bh.1 a |>.2,List.getElem_cons_drop,bD]
 rw[o]at h;obtain⟨v1,v2,A,y,rfl,rfl,n,f⟩:=fy.gk _ h;simp only[fy]at f;obtain⟨j,s,q,G2,rfl,rfl,d,t⟩:=f;have r:v1.length=i * k:=by
  rw[fy.length _ n (λx l=>c x (cn l)),bj,cI (by omega)]
 have p:j.length=k:=by rw[fE.length _ d];exact c e (dS a)
 refine⟨q,?_,λg m=>by simp[m]⟩;rw[<- r,yj,<- p,oA];exact d
theorem fE.at_{w:World}:∀{f:M D} {g:M Value} {F:Fp},fE w f g F->∀{i:Nat} {d:D},f[i]?=Z d->∃v G,g[i]?=Z v/\Rp w d v G/\∀c∈G,c∈F
 |[],_,_,_,i,d,b=>by simp at b
 |x::f,_,_,h,i,d,b=>by
  simp only[fE]at h;obtain⟨v,p,o,q,rfl,rfl,n,m⟩:=h;cases i with
  |zero=>simp at b;subst b;exact⟨v,o,rfl,n,λc e=>by simp[e]⟩
  |succ i=>
   obtain⟨a,G,l,k,j⟩:=fE.at_ m b;exact⟨a,G,by simpa using l,k,λc e=>by simp[j c e]⟩
theorem fE.drop{w:World}:∀(a:M D) {c:M Value} {F:Fp} (n:Nat),fE w a c F->∃G,fE w (a.drop n) (c.drop n) G/\∀b∈G,b∈F
 |a,_,F,0,h=>⟨F,by simpa using h,λ_ h=>h⟩
 |[],_,F,n+1,h=>⟨F,by simp only[fE]at h;simp[fE,h.1,h.2],λ_ h=>h⟩
 |d::a,_,_,n+1,h=>by
  simp only[fE]at h;obtain⟨v,k,m,l,rfl,rfl,j,i⟩:=h;obtain⟨G,g,f⟩:=fE.drop a n i;exact⟨G,by simpa using g,λb e=>by simp[f b e]⟩
theorem fE.take{w:World}:∀(b:M D) {e:M Value} {F:Fp} (n:Nat),fE w b e F->∃G,fE w (b.take n) (e.take n) G/\∀c∈G,c∈F
 |b,_,F,0,h=>⟨[],by simp[fE],λ_ h=>by simp at h⟩
 |[],_,F,n+1,h=>⟨F,by simp only[fE]at h;simp[fE,h.1,h.2],λ_ h=>h⟩
 |d::b,_,_,n+1,h=>by
  simp only[fE]at h;obtain⟨v,l,f,m,rfl,rfl,k,j⟩:=h;obtain⟨G,i,g⟩:=fE.take b n j;refine⟨f++G,?_,λc a=>?_⟩
  ·exact⟨v,_,f,G,rfl,rfl,k,i⟩
  ·rcases aT.1 a with a|a
   ·simp[a]
   ·simp[g c a]
theorem fE.plain{w:World}:∀{e:M D} {g:M Value} {F:Fp},fE w e g F->(∀x∈e,D.plain x=I)->F=[]
 |[],_,_,h,_=>by simp only[fE]at h;exact h.2
 |d::e,_,_,h,f=>by
  simp only[fE]at h;obtain⟨v,o,q,p,rfl,rfl,a,j⟩:=h;have c:=fE.plain j (λx i=>f x (by simp[i]));have l:=f d (by simp);cases d with
  |list k m es=>simp[D.plain]at l
  |int k n=>simp[Rp]at a;simp[a.2.1,c]
  |bool b=>simp[Rp]at a;simp[a.2,c]
  |str s=>simp[Rp]at a;simp[a.2.1,c]
theorem fy.plain{w:World}:∀{es:M (M D)} {b:M Value} {F:Fp},fy w es b F->flat es->F=[]
 |[],_,_,h,_=>by simp only[fy]at h;exact h.2
 |e::es,_,_,h,a=>by
  simp only[fy]at h;obtain⟨v1,v2,i,g,rfl,rfl,f,d⟩:=h;rw[fE.plain f (a e (by simp)),fy.plain d (λx c=>a x (by simp[c]))];rfl
theorem Rp.qZ{w:World}{d:D}{v:Value}{F:Fp}(h:Rp w d v F):one v=I:=by
 cases d with
 |int k n=>simp[Rp]at h;rw[h.1];rfl
 |bool b=>simp[Rp]at h;rw[h.1];rfl
 |str s=>simp[Rp]at h;rw[h.1];rfl
 |list k e es=>simp[Rp]at h;obtain⟨A,n,c,a,_⟩:=h;rw[a];rfl
theorem fE.qZ{w:World}:∀{e:M D} {c:M Value} {F:Fp},fE w e c F->∀v∈c,one v=I
 |[],_,_,h=>by simp only[fE]at h;simp[h.1]
 |d::e,_,_,h=>by
  simp only[fE]at h;obtain⟨v,i,k,j,rfl,rfl,g,f⟩:=h;intro a b;rcases aI.1 b with rfl|b
  ·exact g.qZ
  ·exact fE.qZ f a b
theorem fy.qZ{w:World}:∀{es:M (M D)} {c:M Value} {F:Fp},fy w es c F->∀v∈c,one v=I
 |[],_,_,h=>by simp only[fy]at h;simp[h.1]
 |e::es,_,_,h=>by
  simp only[fy]at h;obtain⟨v1,v2,i,g,rfl,rfl,f,d⟩:=h;intro a b;rcases aT.1 b with b|b
  ·exact f.qZ a b
  ·exact fy.qZ d a b
end
section
structure Row where
 es:List (List D)
 k:Nat
 fl:Bool
 deep:Bool
 app:Bool
 fz:Bool
inductive C where
 |d (x:D)
 |nil (k:Nat) (fl:Bool)
 |ref (r:Nat)
 |ptr (b o:Nat)
 |pj (r k i o:Nat)
 |ub (cs:List D)
 |agg (cs:List C)
 |ri (cs:List C)
 |uv
 |any
instance:Inhabited C:=⟨.any⟩
mutual
def C.kill(i:Nat):C->C
 | .ref r=>if r=i then .any else .ref r
 | .ptr b o=>if b=i then .any else .ptr b o
 | .pj r k a o=>if r=i then .any else .pj r k a o
 | .agg cs=>.agg (C.kN i cs)
 | .ri cs=>.ri (C.kN i cs)
 |c=>c
def C.kN(i:Nat):List C->List C
 |[]=>[]
 |c::cs=>C.kill i c::C.kN i cs
end
inductive RV where
 |d (x:D)
 |row (r:Row)
inductive A where
 |val (agg:Bool) (cs:List RV)
 |box (cs:List RV)
structure St where
 sl:List (Nat×C)
 bx:List (Nat×List C)
 rw:List (Nat×Row)
def look{a:Type}:M (Nat×a)->Nat->u a
 |[],_=>O
 |(k,x)::l,d=>if k=d then Z x else look l d
def sa{a:Type}(l:M (Nat×a))(d:Nat):M (Nat×a):=l.filter (λp=>p.1 !=d)
def Qo(i:Nat)(l:M (Nat×C)):M (Nat×C):=l.map λp=>(p.1,p.2.kill i)
def Qn(i:Nat)(l:M (Nat×M C)):M (Nat×M C):=l.map λp=>(p.1,C.kN i p.2)
def St.kill(s:St)(i:Nat):St:=⟨Qo i s.sl,Qn i s.bx,s.rw⟩
def St.get(s:St)(d:Nat):C:=(look s.sl d).getD .any
def St.put(s:St)(a:u Nat)(c:C):St:=
 match a with
 |some d=>{s with sl:=(d,c)::s.sl }
 |none=>s
def St.gl(s:St)(b:Nat)(a:M C):St:={s with bx:=(b,a)::sa s.bx b }
def St.setRow(s:St)(r:Nat)(x:Row):St:={s with rw:=(r,x)::sa s.rw r }
def St.cY(s:St)(r:Nat):St:={s with rw:=sa s.rw r }
def St.lY(s:St)(b:Nat)(a:M C):St:=(s.kill b).gl b a
def St.newRow(s:St)(r:Nat)(x:Row):St:=(s.kill r).setRow r x
def w8(d j:Nat):Nat:=1000 * (d+1)+j
inductive KX where
 |s (d:Nat)
 |k (c:C)
def gj(s:St):KX->C
 | .s d=>s.get d
 | .k c=>c
def C.cells:C->M C
 | .agg cs=>cs
 |c=>[c]
def nth{a:Type}:M a->Nat->u a
 |[],_=>O
 |x::_,0=>Z x
 |_::l,i+1=>nth l i
def C.const:C->Bool
 | .d x=>D.plain x
 | .nil _ _=>I
 |_=>J
def C.cell:C->Bool
 | .d _=>I
 | .nil _ _=>I
 | .ref _=>I
 |_=>J
def FQ:St->M C->u (M D×Bool×St)
 |s,[]=>Z ([],I,s)
 |s,c::cs=>
  match c with
  | .d x=>(FQ s cs).map λ(b,e,a)=>(x::b,D.plain x && e,a)
  | .nil k f=>(FQ s cs).map λ(b,e,a)=>(.list k f []::b,e,a)
  | .ref r=>
   match look s.rw r with
   |some x=>(FQ (s.cY r) cs).map λ(b,e,a)=>(.list x.k x.fl x.es::b,x.deep && !x.fz && e,a)
   |none=>O
  |_=>O
def dW(a:M D):Bool:=a.all D.plain
def Dk(k:Nat)(d:Bool):St->M C->u (M (M D)×Bool×St)
 |s,[]=>Z ([],I,s)
 |s,c::cs=>
  match FQ s c.cells with
  |some (a,g,e)=>if a.length=k/\(d=I->dW a=I) then (Dk k d e cs).map λ(es,b,f)=>(a::es,g && b,f) else O
  |none=>O
def room:Nat:=140737488355328
inductive KO where
 |mv (x:KX)
 |pick (c x y:KX)
 |alloc (zs:List C)
 |box (x:KX)
 |build (zs:List C) (ps:List (Nat×Nat×KX))
 |uf (k:Nat) (fl:Bool) (xs:List KX)
 |make (k by_:Nat) (fl:Bool) (zs:List D) (x:KX)
 |ld (n:Nat) (x:KX)
 |st (n:Nat) (x y:KX)
 |fa (o:Nat) (x:KX)
 |ia (k:Nat) (x i:KX)
 |Xp (x i:KX)
 |bin (op:BinOp) (x y:KX)
 |TI (op:BinOp) (x y:KX)
 |not (x:KX)
 |neg (x:KX)
 |conv (k:IntKind) (x:KX)
 |len (x:KX)
 |sln (x:KX)
 |app (k by_:Nat) (fl:Bool) (x y:KX)
 |min (x y:KX)
 |max (x y:KX)
 |ext (x:KX) (i:Nat)
 |slc (x hi:KX)
 |nck (x:KX)
 |Nu (x:KX)
 |call (f:Nat) (xs:List KX)
 |YD (f:Nat) (x y:KX)
 |cut (k:Nat) (x:KX) (lo hi:Option KX)
 |Ti (x:KX) (lo hi:Option KX)
 |zZ (k:Nat) (x:KX) (lo hi:Option KX)
 |ixa (n k:Nat) (x i:KX)
 |GV (k:Nat) (x y:KX)
 |zro (zs:List C)
 |jn (x y:KX)
 |xt (ins:Bool) (x i z:KX)
 |QJ (x:KX)
structure KI where
 dst:Option Nat
 op:KO
 gd:Option (Nat×Bool)
structure KD where
 j:Nat
 q:Bool
 al:List Nat
 dn:List Nat
 i:KI
inductive KT where
 |nil
 |op (x:KD) (t:KT)
 |alt (x:KD) (t r:KT)
structure mo where
 s:List Nat
 b:List Nat
 r:List Nat
inductive K where
 |skip
 |Q5 (ops:List KI) (kp:mo)
 |TK (ops:KT) (kp:mo)
 |seq (a b:K)
 |cond (c:KX) (a b:K)
 |block (id:Nat) (a:K)
 |loop (a:K)
 |exit (id:Nat)
 |ret
 |share (r:Nat) (a:K)
 |Kk (d:Nat) (a:K)
inductive Ex where
 |norm
 |exit (id:Nat)
 |ret
def Ut(op:BinOp)(k:IntKind)(a b:Int):u D:=
 match op with
 | .add=>Z (.int k (k.wrap (a+b)))
 | .sub=>Z (.int k (k.wrap (a - b)))
 | .mul=>Z (.int k (k.wrap (a * b)))
 | .lss=>Z (.bool (Z' (a < b)))
 | .leq=>Z (.bool (Z' (a<=b)))
 | .gtr=>Z (.bool (Z' (b < a)))
 | .geq=>Z (.bool (Z' (b<=a)))
 | .eql=>Z (.bool (Z' (a=b)))
 | .neq=>Z (.bool (!Z' (a=b)))
 | .quo=>if k=.i64/\0<=a/\1<=b then Z (.int k (a / b)) else if k=.i64/\a < 0/\1<=b then Z (.int k (-(-a / b))) else O
 | .rem=>if k=.i64/\0<=a/\1<=b then Z (.int k (a % b)) else if k=.i64/\a < 0/\1<=b then Z (.int k (-(-a % b))) else O
 |_=>O
def kq(a b:z):Bool:=Op.bytesLess a.toList b.toList
def Uu(op:BinOp)(a b:z):u D:=
 match op with
 | .add=>if a.size+b.size<=maxLen then Z (.str (a++b)) else O
 | .eql=>Z (.bool (Z' (a=b)))
 | .neq=>Z (.bool (!Z' (a=b)))
 | .lss=>Z (.bool (kq a b))
 | .leq=>Z (.bool (kq a b ||decide (a=b)))
 | .gtr=>Z (.bool (!(kq a b ||decide (a=b))))
 | .geq=>Z (.bool (!kq a b))
 |_=>O
def Us(op:BinOp)(a b:Bool):u D:=
 match op with
 | .eql=>Z (.bool (Z' (a=b)))
 | .neq=>Z (.bool (!Z' (a=b)))
 |_=>O
def Rx(op:BinOp):C->C->u C
 | .d (.int k a),.d (.int c b)=>if k=c then (Ut op k a b).map .d else O
 | .d (.str a),.d (.str b)=>(Uu op a b).map .d
 |_,_=>O
def mZ(s:St):C->u RV
 | .d x=>Z (.d x)
 | .nil k a=>Z (.d (.list k a []))
 | .ref r=>(look s.rw r).map λx=>.d (.list x.k x.fl x.es)
 |_=>O
def kc(s:St):C->u RV
 | .d x=>Z (.d x)
 | .nil k a=>Z (.row ⟨[],k,a,I,I,J⟩)
 | .ref r=>(look s.rw r).map .row
 |_=>O
def gH{a β:Type}(f:a->u β):M a->u (M β)
 |[]=>Z []
 |x::xs=>match f x with
  |some y=>(gH f xs).map (y::·)
  |none=>O
def C.isAgg:C->Bool
 | .agg _=>I
 |_=>J
def Tt(s:St)(c:C):u A:=
 match c with
 | .ptr b 0=>match look s.bx b with
  |some a=>(gH (kc s) a).map .box
  |none=>O
 |c=>(gH (mZ s) c.cells).map (.val c.isAgg)
def zP(s:St):M C->u (M A)
 |[]=>Z []
 |c::cs=>match Tt s c with
  |some a=>(zP s cs).map (a::·)
  |none=>O
def rowsOf:M C->M Nat
 |[]=>[]
 | .ref r::cs=>r::rowsOf cs
 |_::cs=>rowsOf cs
def sH(s:St):C->M Nat
 | .ptr b 0=>rowsOf ((look s.bx b).getD [])
 |_=>[]
def dN(s:St):M C->M Nat
 |[]=>[]
 |c::cs=>sH s c++dN s cs
def jE:M C->M Nat
 |[]=>[]
 |c::cs=>rowsOf c.cells++jE cs
def cX:M C->M Nat
 |[]=>[]
 | .ptr b _::cs=>b::cX cs
 |_::cs=>cX cs
def RV.closed:RV->Bool
 | .d x=>D.plain x
 | .row r=>r.deep
def A.closed:A->Bool
 | .val _ cs=>cs.all RV.closed
 | .box cs=>cs.all RV.closed
def Row.share(r:Row):Row:={r with fz:=I,deep:=r.fl }
def fc(s:St):M Nat->St
 |[]=>s
 |r::rs=>match look s.rw r with
  |some x=>fc (s.setRow r x.share) rs
  |none=>fc s rs
def fv(d:Nat):Nat->M RV->St->M C×St
 |_,[],s=>([],s)
 |j,.d x::cs,s=>let (l,a):=fv d (j+1) cs s;(.d x::l,a)
 |j,.row r::cs,s=>let (l,a):=fv d (j+1) cs (s.newRow (w8 d j) r);(.ref (w8 d j)::l,a)
def l8(s:St):M C->M A->St
 | .ptr b 0::cs,.box a::outs=>let (l,c):=fv (b+500) 0 a s;l8 (c.gl b l) cs outs
 | .ptr _ 0::_,_=>s
 |_::cs,outs=>l8 s cs outs
 |[],_=>s
def gL(d:Nat):Nat->M A->St->M C×St
 |_,[],s=>([],s)
 |q,.val e a::rs,s=>
  let (l,c):=fv d (30 * q) a s
  let (m,b):=gL d (q+1) rs c
  ((if e then .agg l else l.headD .any)::m,b)
 |_,.box _::_,s=>([],s)
def kG:M Nat->Bool
 |[]=>I
 |x::xs=>!xs.contains x && kG xs
def fN(s:St):M Nat->St
 |[]=>s
 |r::rs=>fN (s.cY r) rs
def gU{a:Type}(l:M a)(o:Nat)(n:M a):M a:=l.take o++n++l.drop (o+n.length)
def A.short:A->Bool
 | .val _ cs=>nP cs.length 30
 | .box _=>J
def fI(s:St):M Nat->St
 |[]=>s
 |b::a=>fI {s with bx:=sa s.bx b } a
def BD(a:M C):M (Nat×Nat×M C)->u (M C)
 |[]=>Z a
 |(o,n,cs)::b=>if cs.length=n/\o+n<=a.length/\cs.all C.cell=I then BD (gU a o cs) b else O
def zH:M C->M Nat
 |[]=>[]
 |c::cs=>rowsOf c.cells++zH cs
def Cp(s:St)(a:M C):M Nat:=cX a++dN s a++jE a
def bytesOf:M (M D)->u (M Int)
 |[]=>Z []
 |[.int .u8 n]::es=>(bytesOf es).map (n::·)
 |_=>O
def kj(s:St):C->u D
 | .d x=>match x with
  | .list k a []=>Z (.list k a [])
  | .list _ _ _=>O
  |x=>Z x
 | .nil k a=>Z (.list k a [])
 | .ref r=>match look s.rw r with
  |some row=>if row.deep=I/\row.fz=J then Z (.list row.k row.fl row.es) else O
  |none=>O
 |_=>O
def uO(s:St):M C->u (M D)
 |[]=>Z []
 |c::cs=>match kj s c with
  |some x=>(uO s cs).map (x::·)
  |none=>O
def qP(s:St):M C->M D->St->u St
 |[],[],acc=>Z acc
 | .ref r::cs,.list k b es::a,acc=>match look s.rw r with
  |some row=>if k=row.k/\b=row.fl then qP s cs a (acc.setRow r ⟨es,row.k,row.fl,I,J,J⟩) else O
  |none=>O
 | .ref _::_,_,_=>O
 |_::cs,_::a,acc=>qP s cs a acc
 |_,_,_=>O
section
variable (cf:Nat->M A->u (M A×M A)) (mf:Nat->Bool->M D->Int->u (M D×Int))
def xC(s:St)(d:u Nat)(f:Nat)(a:M C):u St:=
 match zP s a with
 |none=>O
 |some as=>
  if kG (dN s a) && kG (cX a) && (dN s a).all (λr=>!(jE a).contains r) then
   match cf f as with
   |none=>O
   |some (rs,outs)=>if rs.all A.short then
    let h:=if rs.all A.closed && outs.all A.closed then s else fc s (jE a)
    let g:=fI (fN h (dN s a)) (cX a)
    let e:=l8 g a outs
    let (l,b):=gL (d.getD 0) 0 rs e
    Z (b.put d (match l with|[c]=>c|l=>.ri l))
    else O
  else O
def sL(s:St)(o:u KX)(a:Nat):u Nat:=
 match o with
 |none=>Z a
 |some e=>match gj s e with
  | .d (.int .i64 n)=>if 0<=n then Z n.toNat else O
  |_=>O
def jj(s:St):KO->u C
 | .mv x=>Z (gj s x)
 | .pick c x y=>match gj s c with
  | .d (.bool b)=>Z (if b then gj s x else gj s y)
  |_=>O
 | .build g w=>(BD g (w.map λp=>(p.1,p.2.1,(gj s p.2.2).cells))).map .agg
 | .ld n x=>match gj s x with
  | .ptr b o=>match look s.bx b with
   |some f=>if n=0 then nth f o else if o+n<=f.length then Z (.agg ((f.drop o).take n)) else O
   |none=>O
  | .ub f=>if n=0 then (nth f 0).map .d else if n<=f.length then Z (.agg ((f.take n).map .d)) else O
  | .pj r k i o=>match look s.rw r with
   |some row=>match nth row.es i with
    |some e=>if row.k=k/\o+max n 1<=k/\(dW ((e.drop o).take (max n 1)) ||!row.deep)=I then
      (if n=0 then (nth e o).map .d else Z (.agg (((e.drop o).take n).map .d))) else O
    |none=>O
   |none=>O
  |_=>O
 | .fa o x=>match gj s x with
  | .ptr b p=>Z (.ptr b (p+o))
  | .ub f=>Z (.ub (f.drop o))
  | .pj r k i p=>Z (.pj r k i (p+o))
  |_=>O
 | .ia k x i=>match gj s x,gj s i with
  | .d (.list j _ es),.d (.int .i64 n)=>if 0<=n/\j=k then (nth es n.toNat).map .ub else O
  | .ref r,.d (.int .i64 n)=>match look s.rw r with
   |some row=>if 0<=n/\n.toNat < row.es.length/\row.k=k then Z (.pj r k n.toNat 0) else O
   |none=>O
  |_,_=>O
 | .zro g=>if g.all C.const then Z (.agg g) else O
 | .ixa n k x i=>match gj s x,gj s i with
  | .ptr b o,.d (.int .i64 m)=>if 0<=m/\m.toNat < n then Z (.ptr b (o+m.toNat * k)) else O
  |_,_=>O
 | .Xp x i=>match gj s x,gj s i with
  | .d (.str t),.d (.int .i64 n)=>if 0<=n/\n.toNat < t.size then Z (.d (.int .u8 (eA t n.toNat))) else O
  |_,_=>O
 | .bin op x y=>Rx op (gj s x) (gj s y)
 | .TI op x y=>match gj s x,gj s y with
  | .d (.bool a),.d (.bool b)=>(Us op a b).map .d
  |_,_=>O
 | .not x=>match gj s x with
  | .d (.bool b)=>Z (.d (.bool (!b)))
  |_=>O
 | .neg x=>match gj s x with
  | .d (.int k a)=>Z (.d (.int k (k.wrap (-a))))
  |_=>O
 | .conv k x=>match gj s x with
  | .d (.int _ a)=>Z (.d (.int k (k.wrap a)))
  |_=>O
 | .len x=>match gj s x with
  | .d (.list _ _ es)=>Z (.d (.int .i64 es.length))
  | .nil _ _=>Z (.d (.int .i64 0))
  | .ref r=>match look s.rw r with
   |some row=>Z (.d (.int .i64 row.es.length))
   |none=>O
  |_=>O
 | .sln x=>match gj s x with
  | .d (.str t)=>Z (.d (.int .i64 t.size))
  |_=>O
 | .min x y=>match gj s x,gj s y with
  | .d (.int .i64 a),.d (.int .i64 b)=>Z (.d (.int .i64 (if b < a then b else a)))
  |_,_=>O
 | .max x y=>match gj s x,gj s y with
  | .d (.int .i64 a),.d (.int .i64 b)=>Z (.d (.int .i64 (if a < b then b else a)))
  |_,_=>O
 | .ext x i=>match gj s x with
  | .ri f=>nth f i
  |_=>O
 | .slc x y=>match gj s x,gj s y with
  | .d (.list k q es),.d (.int .i64 n)=>if 0<=n/\n.toNat<=es.length then Z (.d (.list k q (es.take n.toNat))) else O
  |_,_=>O
 | .Ti x h l=>match gj s x with
  | .d (.str t)=>match sL s h 0,sL s l t.size with
   |some a,Z b=>if a<=b/\b<=t.size then Z (.d (.str (t.extract a b))) else O
   |_,_=>O
  |_=>O
 | .zZ j x h l=>match gj s x with
  | .d (.list k q es)=>match sL s h 0,sL s l es.length with
   |some a,Z b=>if k=j/\a<=b/\b<=es.length then Z (.d (.list k q ((es.take b).drop a))) else O
   |_,_=>O
  |_=>O
 | .nck x=>match gj s x with
  | .ptr b o=>Z (.ptr b o)
  | .ub f=>Z (.ub f)
  | .pj r k i o=>Z (.pj r k i o)
  |_=>O
 | .Nu x=>match gj s x with
  | .ref r=>match look s.rw r with
   |some row=>if row.k=1 then (bytesOf row.es).map λv=>.d (.str ⟨(v.map λn=>dD n.toNat).toArray⟩) else O
   |none=>O
  |_=>O
 |_=>O
mutual
def C.iG(q i:Nat):C->C
 | .ref r=>if r=q then .ref i else if r=i then .any else .ref r
 | .pj r k a o=>if r=q then .pj i k a o else if r=i then .any else .pj r k a o
 | .agg cs=>.agg (C.Be q i cs)
 | .ri cs=>.ri (C.Be q i cs)
 |c=>c
def C.Be(q i:Nat):List C->List C
 |[]=>[]
 |c::cs=>C.iG q i c::C.Be q i cs
end
def Xi(q i:Nat)(l:M (Nat×C)):M (Nat×C):=l.map λp=>(p.1,p.2.iG q i)
def Xh(q i:Nat)(l:M (Nat×M C)):M (Nat×M C):=l.map λp=>(p.1,C.Be q i p.2)
def St.iG(s:St)(q i:Nat)(row:Row):St:=⟨Xi q i s.sl,Xh q i s.bx,(i,row)::sa (sa s.rw q) i⟩
def lr:M (M D)->u (M Bool)
 |[]=>Z []
 |[.bool b]::es=>(lr es).map (b::·)
 |_=>O
def dM:M Bool->M Bool->M Bool
 |a::as,b::c=>(a ||b)::dM as c
 |as,_=>as
def nC:M Bool->M Bool->Bool
 |a::as,b::c=>(b && !a) ||nC as c
 |_,_=>J
def Hl(s:St)(r:Nat):C->u (M (M D))
 | .d (.list 1 _ es)=>Z es
 | .ref q=>match look s.rw q with
  |some row=>if row.k=1/\q≠r then Z row.es else O
  |none=>O
 |_=>O
def nu(s:St)(k:Nat)(a:Bool):C->u (M (M D)×Bool×St)
 | .d (.list c b es)=>if c=k/\b=a then Z (es,a,s) else O
 | .nil _ _=>Z ([],I,s)
 | .ref q=>match look s.rw q with
  |some row=>if row.k=k/\row.fl=a then Z (row.es,(row.deep && !row.fz) ||a,s.cY q) else O
  |none=>O
 |_=>O
def yc(s:St)(ins:Bool)(a:Int):C->u (Int×M (M D)×Bool×St)
 | .d (.int .i64 b)=>if ins=J/\a < b then Z (b,[],I,s) else O
 | .ref q=>match look s.rw q with
  |some row=>if ins=I/\row.k=3/\row.fl=J/\row.app=I/\row.es≠[] then Z (a,row.es,row.deep && !row.fz,s.cY q) else O
  |none=>O
 |_=>O
def lQ(s:St)(d:u Nat):KO->u St
 | .alloc w=>match d with
  |some b=>if w.all C.const then Z ((s.lY b w).put d (.ptr b 0)) else O
  |none=>O
 | .box x=>match d with
  |some b=>if (gj s x).cells.all C.cell then Z ((s.lY b (C.kN b (gj s x).cells)).put d (.ptr b 0)) else O
  |none=>O
 | .uf k j xs=>match d with
  |some r=>match Dk k j s (xs.map (gj s)) with
   |some (es,m,h)=>if 0 < k then Z ((h.newRow r ⟨es,k,j,m,I,J⟩).put d (.ref r)) else O
   |none=>O
  |none=>O
 | .make k l j w x=>match d,gj s x with
  |some r,.d (.int .i64 n)=>if 0<=n/\n.toNat * l<=room/\n<=4611686018427387904 then Z ((s.newRow r ⟨aY n.toNat w,k,j,I,I,J⟩).put d (.ref r)) else O
  |_,_=>O
 | .st n x y=>match gj s x with
  | .ptr b o=>match look s.bx b with
   |some v=>if (gj s y).cells.all C.cell=I/\(gj s y).cells.length=n/\o+n<=v.length then Z (s.gl b (gU v o (gj s y).cells)) else O
   |none=>O
  | .pj r k i o=>match FQ s (gj s y).cells with
   |some (t,m,h)=>match look h.rw r with
    |some row=>match nth row.es i with
     |some e=>if row.k=k/\row.fz=J/\row.app=I/\t.length=n/\o+n<=k/\(row.fl=I->dW t=I)/\(m ||!row.deep)=I then
       Z (h.setRow r {row with es:=row.es.set i (gU e o t) }) else O
     |none=>O
    |none=>O
   |none=>O
  |_=>O
 | .app k l j x y=>match d with
  |none=>O
  |some d0=>match nu s k j (gj s y) with
   |none=>O
   |some (es,m,h)=>match gj s x with
    | .nil p B=>if p=k/\B=j/\es.length * l<=room/\es.length<=maxLen then Z ((h.newRow d0 ⟨es,k,j,m,I,J⟩).put d (.ref d0)) else O
    | .ref r=>match look h.rw r with
     |some row=>if row.k=k/\row.fl=j/\row.app=I/\(row.es.length+es.length) * l<=room/\row.es.length+es.length<=maxLen then
       Z ((h.newRow r {row with es:=row.es++es,deep:=row.deep && m }).put d (.ref r)) else O
     |none=>O
    |_=>O
 | .call f xs=>xC cf s d f (xs.map (gj s))
 | .cut k x F G=>match d with
  |none=>O
  |some _=>match gj s x with
   | .nil p j=>match sL s F 0,sL s G 0 with
    |some a,Z b=>if p=k/\a=0/\b=0 then Z (s.put d (.nil p j)) else O
    |_,_=>O
   | .ref r=>match look s.rw r with
    |some row=>match sL s F 0,sL s G row.es.length with
     |some a,Z b=>if row.k=k/\a<=b/\b<=row.es.length/\row.fz=J then Z ((s.newRow r {row with es:=(row.es.take b).drop a,app:=row.app && F.isNone }).put d (.ref r)) else O
     |_,_=>O
    |none=>O
   |_=>O
 | .GV k x y=>match d,gj s x,gj s y with
  |some d0,.ref r,.d (.list p B es)=>match look s.rw r with
   |some row=>if row.k=k/\p=k/\B=I/\row.fl=I/\row.fz=J/\row.app=I/\es.length=row.es.length then
     Z ((s.setRow r {row with es:=es }).put (Z d0) (.d (.int .i64 es.length))) else O
   |none=>O
  |_,_,_=>O
 | .QJ x=>match d with
  |some d0=>match gj s x with
   | .ref q=>match look s.rw q with
    |some row=>Z ((s.iG q (w8 d0 0) row).put (Z d0) (.ref (w8 d0 0)))
    |none=>O
   |c=>Z (s.put (Z d0) c)
  |none=>O
 | .jn x y=>match d,gj s x with
  |some d0,.ref r=>match look s.rw r,Hl s r (gj s y) with
   |some row,Z es=>if row.k=1/\row.fl=I/\row.fz=J/\row.app=I/\es.length=row.es.length then
     (match lr row.es,lr es with
     |some H,Z v=>if es≠[] then Z ((s.setRow r {row with es:=(dM H v).map λb=>[D.bool b] }).put (Z d0) (.d (.bool (nC H v)))) else O
     |_,_=>O) else O
   |_,_=>O
  |_,_=>O
 | .xt ins x i g=>match d,gj s i with
  |some d0,.d (.int .i64 a)=>match yc s ins a (gj s g) with
   |some (b,es,m,h)=>match gj s x with
    | .ref r=>match look h.rw r with
     |some row=>if row.k=3/\row.fl=J/\row.app=I/\row.fz=J/\0<=a/\b<=row.es.length/\(row.es.length+es.length) * 56<=room then
       Z ((h.newRow r {row with es:=row.es.take a.toNat++es++row.es.drop b.toNat,deep:=row.deep && m }).put d (.ref r)) else O
     |none=>O
    |_=>O
   |none=>O
  |_,_=>O
 | .YD f x y=>match d,gj s y with
  |some d0,.d (.int .i64 q)=>match uO s (gj s x).cells with
   |some t=>if kG (rowsOf (gj s x).cells) then (match mf f (gj s x).isAgg t q with
    |some (N,L)=>(qP s (gj s x).cells N (fN s (rowsOf (gj s x).cells))).map λK=>K.put (Z d0) (.d (.int .i64 L))
    |none=>O) else O
   |none=>O
  |_,_=>O
 |_=>O
def KO.kT:KO->Bool
 | .alloc _=>J
 | .box _=>J
 | .uf _ _ _=>J
 | .make _ _ _ _ _=>J
 | .st _ _ _=>J
 | .app _ _ _ _ _=>J
 | .call _ _=>J
 | .YD _ _ _=>J
 | .cut _ _ _ _=>J
 | .GV _ _ _=>J
 | .jn _ _=>J
 | .xt _ _ _ _=>J
 | .QJ _=>J
 |_=>I
def B8(s:St)(d:u Nat)(o:KO):u St:=
 if o.kT then (jj s o).map (s.put d) else lQ cf mf s d o
def ux(s:St)(i:KI):u St:=
 match i.gd with
 |none=>B8 cf mf s i.dst i.op
 |some (g,want)=>match s.get g with
  | .d (.bool b)=>if b=want then B8 cf mf s i.dst i.op else Z (s.put i.dst .uv)
  | .uv=>Z (s.put i.dst .uv)
  |_=>O
def nB:M KI->St->u St
 |[],s=>Z s
 |i::is,s=>match ux cf mf s i with
  |some a=>nB is a
  |none=>O
def KO.N_:KO->Bool
 | .ld _ _=>I
 | .Nu _=>I
 |_=>J
def pr(s:St):KO->u (u Nat)
 | .ld _ x=>match gj s x with
  | .ptr b _=>Z (Z b)
  | .ub _=>Z O
  |_=>O
 | .Nu _=>O
 |_=>Z O
def eW(s:St)(d:u Nat):KO->M Nat
 | .st _ x y=>(match gj s x with
   | .ptr b _=>[b]
   | .pj r _ _ _=>r::rowsOf (gj s y).cells
   |_=>[])
 | .uf _ _ xs=>d.toList++zH (xs.map (gj s))
 | .app _ _ _ x y=>d.toList++rowsOf [gj s x]++rowsOf [gj s y]
 | .call f xs=>Cp s (xs.map (gj s))
 | .YD _ x _=>rowsOf (gj s x).cells
 | .cut _ x _ _=>d.toList++rowsOf [gj s x]
 | .GV _ x _=>d.toList++rowsOf [gj s x]
 | .jn x _=>d.toList++rowsOf [gj s x]
 | .xt _ x _ a=>d.toList++rowsOf [gj s x]++rowsOf [gj s a]
 |_=>d.toList
def oS(c:M Nat)(a:M (M Nat×Nat)):u Nat->M (M Nat×Nat)
 |some b=>(c,b)::a
 |none=>a
def jR(j:Nat)(a:M (M Nat×Nat)):M (M Nat×Nat):=a.filter λp=>!p.1.contains j
def iV{a:Type}(l:M (Nat×a)):M Nat->M (Nat×a)
 |[]=>[]
 |d::b=>match look l d with
  |some x=>(d,x)::iV l b
  |none=>iV l b
def St.dL(s:St)(a:mo):St:=⟨iV s.sl a.s,iV s.bx a.b,iV s.rw a.r⟩
def mm(x:KD)(a:M (M Nat×Nat))(s:St)(k:M (M Nat×Nat)->St->u St):u St:=
 match ux cf mf s x.i with
 |some b=>if (jR x.j a).all (λp=>!(eW s x.i.dst x.i.op).contains p.2 && (look b.bx p.2).isSome && !(x.i.dst ==Z p.2)) then k (jR x.j a) b else O
 |none=>O
open Classical in
noncomputable def both{c:Type}:u c->u c->u c
 |some a,Z b=>if a=b then Z a else O
 |_,_=>O
noncomputable def fU(e:mo):KT->M (M Nat×Nat)->St->u St
 | .nil,_,s=>Z (s.dL e)
 | .op ⟨j,quiet,h,f,i⟩ is,a,s=>
  if quiet then
   (match i.gd with
   |none=>(match jj s i.op,pr s i.op with
    |some c,Z b=>fU e is (oS f a b) (s.put i.dst c)
    |_,_=>O)
   |some (g,want)=>match s.get g with
    | .d (.bool t)=>if t=want then (match jj s i.op,pr s i.op with
      |some c,Z b=>fU e is (oS f a b) (s.put i.dst c)
      |_,_=>O) else fU e is a (s.put i.dst .uv)
    | .uv=>fU e is a (s.put i.dst .uv)
    |_=>O)
  else mm cf mf ⟨j,quiet,h,f,i⟩ a s (fU e is)
 | .alt x is r,a,s=>both (mm cf mf x a s (fU e is)) (fU e r a s)
def iter(f:St->u (Ex×St)):Nat->St->u (Ex×St)
 |0,_=>O
 |n+1,s=>match f s with
  |some (.norm,a)=>iter f n a
  |r=>r
def NA(s:St):C->C
 | .ref r=>match look s.rw r with
  |some x=>.d (.list x.k x.fl x.es)
  |none=>.ref r
 | .nil k a=>.d (.list k a [])
 |c=>c
def s_(s:St)(d:Nat):u St:=
 match s.get d with
 | .ref r=>match look s.rw r with
  |some x=>Z ((fc s [r]).put (Z d) (.d (.list x.k x.fl x.es)))
  |none=>O
 | .nil k c=>Z (s.put (Z d) (.d (.list k c [])))
 | .ptr b 0=>match look s.bx b with
  |some a=>Z ((fc s (rowsOf a)).gl b (a.map (NA s)))
  |none=>Z s
 |_=>Z s
noncomputable def jb(n:Nat):K->St->u (Ex×St)
 | .skip,s=>Z (.norm,s)
 | .Q5 ops f,s=>match nB cf mf ops s with
  |some e=>Z (.norm,e.dL f)
  |none=>O
 | .TK ops f,s=>match fU cf mf f ops [] s with
  |some e=>Z (.norm,e)
  |none=>O
 | .seq a b,s=>match jb n a s with
  |some (.norm,e)=>jb n b e
  |r=>r
 | .cond c a b,s=>match gj s c with
  | .d (.bool t)=>if t then jb n a s else jb n b s
  |_=>O
 | .block id a,s=>match jb n a s with
  |some (.exit i,e)=>if i=id then Z (.norm,e) else Z (.exit i,e)
  |r=>r
 | .loop a,s=>iter (jb n a) n s
 | .exit id,s=>Z (.exit id,s)
 | .ret,s=>Z (.ret,s)
 | .share r a,s=>jb n a (fc s [r])
 | .Kk d a,s=>match s_ s d with
  |some e=>jb n a e
  |none=>O
end
inductive KR where
 |t (d:Nat)
 |c (d n:Nat)
structure KF where
 np:Nat
 body:K
 res:List KR
def Aq(p:Nat)(a:A)(s:St):St:=
 match a with
 | .val d b=>let (l,c):=fv p 0 b s;c.put (Z p) (if d then .agg l else l.headD .any)
 | .box b=>let (l,c):=fv (p+500) 0 b s;(c.lY (900+p) l).put (Z p) (.ptr (900+p) 0)
def jW:Nat->M A->St->St
 |_,[],s=>s
 |p,a::as,s=>jW (p+1) as (Aq p a s)
def JQ (s : St) : KR -> u (A × M Nat)
  | .t d => (gH (kc s) (s.get d).cells).map λa => (.val (s.get d).isAgg a, rowsOf (s.get d).cells)
  | .c d n => match s.get d with
   | .ptr b 0 => match look s.bx b with
    | some cs => if n = 0 then (match cs with
        | [c] => (gH (kc s) cs).map λa => (.val J a, rowsOf cs)
        | _ => O)
      else if cs.length = n then (gH (kc s) cs).map λa => (.val I a, rowsOf cs) else O
    | none => O
   | _ => O
def zD(s:St):M KR->u (M A×M Nat)
 |[]=>Z ([],[])
 |r::rs=>match JQ s r with
  |some (a,l)=>(zD s rs).map λ(as,b)=>(a::as,l++b)
  |none=>O
def S_(s:St)(p:Nat):A->u (M A×M Nat)
 | .val _ _=>Z ([],[])
 | .box _=>match look s.bx (900+p) with
  |some a=>(gH (kc s) a).map λb=>([.box b],rowsOf a)
  |none=>O
def vG(s:St):Nat->M A->u (M A×M Nat)
 |_,[]=>Z ([],[])
 |p,a::as=>match S_ s p a with
  |some (l,r)=>(vG s (p+1) as).map λ(c,b)=>(l++c,r++b)
  |none=>O
def leave(b:KF)(args:M A)(s:St):u (M A×M A):=
 match zD s b.res,vG s 0 args with
 |some (rs,l),Z (outs,a)=>if kG (l++a) then Z (rs,outs) else O
 |_,_=>O
noncomputable def Fa(c:Nat->M A->u (M A×M A))(b:Nat->Bool->M D->Int->u (M D×Int))(n:Nat)(a:KF)(args:M A):u (M A×M A):=
 if args.length=a.np then
  match jb c b n a.body (jW 0 args ⟨[],[],[]⟩) with
  |some (.norm,s)=>leave a args s
  |some (.ret,s)=>leave a args s
  |_=>O
 else O
def S5(t:z):M (M D)->Int->u Int
 |[],_=>Z (-1)
 |(.str s::_)::es,i=>if s=t then Z i else S5 t es (i+1)
 |_,_=>O
def XT(f:Nat)(as:M A):u (M A×M A):=
 if f=9001 then (match as with
  |[.val J [.d (.int .i64 n)]]=>Z ([.val J [.d (.str ⟨(Lib.itoa n).toArray⟩)]],[])
  |_=>O)
 else if f=9002 then (match as with
  |[.val J [.d (.str s)],.val J [.d (.int .u8 c)]]=>Z ([.val J [.d (.int .i64 (Lib.indexByte s.data.toList c.toNat.toUInt8))]],[])
  |_=>O)
 else if f=9003 then (match as with
  |[.val J [.d (.list 3 a es)],.val J [.d (.str t)]]=>(S5 t es 0).map λi=>([.val J [.d (.int .i64 i)]],[])
  |_=>O)
 else O
noncomputable def yN(T:Nat->u KF):Nat->Nat->M A->u (M A×M A)
 |0,_,_=>O
 |n+1,f,args=>match T f with
  |none=>O
  |some a=>if a.np=999 then XT f args else Fa (yN T n) (λ_ _ _ _=>O) n a args
end
section
open Go.RowKit
inductive Own where
 |free
 |box (b:Nat)
 |row (r:Nat)
 |ej
 deriving DecidableEq
structure Gh where
 h:Nat->Nat
 β:Nat->Nat
 sl:Nat->Value
 ω:Nat->Own
def eI(h:Nat->Nat)(F:Fp):Prop:=∀a∈F,a.2<=h a.1
def oG(w:World)(g:Nat):Prop:=g < w.heap.size/\∀j,w.frozen? ⟨g,j,O⟩=J
mutual
def CR(γ:Gh)(w:World):C->Value->Prop
 | .d x,v=>∃F,Rp w x v F/\eI γ.h F
 | .nil k _,v=>v=.slice O 0 0/\0 < k
 | .ref r,v=>v=γ.sl r/\∃A n c,v=.slice A n c
 | .ptr b o,v=>v=.pointer (Z ⟨γ.β b,o,O⟩)
 | .pj r k i o,v=>∃g p n c,γ.sl r=.slice (Z ⟨g,p,O⟩) n c/\v=.pointer (Z ⟨g,p+i * k+o,O⟩)
 | .ub cs,v=>∃b o a F,v=.pointer (Z ⟨b,o,O⟩)/\fE w cs a F/\eI γ.h F/\iH w b o a/\∀j,j < cs.length->o+j < γ.h b
 | .agg cs,v=>∃a,v=.agg a.toArray/\fu γ w cs a
 | .ri cs,v=>∃a,v=.tuple a.toArray/\fu γ w cs a
 | .uv,v=>v=undef
 | .any,_=>True
def fu(γ:Gh)(w:World):List C->List Value->Prop
 |[],a=>a=[]
 |c::cs,a=>∃v e,a=v::e/\CR γ w c v/\fu γ w cs e
end
def pz(h:Nat->Nat)(w:World)(x:Row)(v:Value)(F:M Nat):Prop:=
 ∃A n c,v=.slice A n c/\n=x.es.length/\n<=c/\c<=maxLen/\0 < x.k/\(∀e∈x.es,e.length=x.k)/\(x.fl=I->flat x.es)/\
  ((A=O/\c=0/\F=[])\/
   ∃g o a G,A=Z ⟨g,o,O⟩/\g < w.heap.size/\oG w g/\fy w x.es a G/\iH w g o a/\h g<=o+n * x.k/\(x.fz=J->h g=0)/\
    (x.app=I->o=0/\∃T b,kJ w g T b/\b.length=c * x.k)/\
    (x.deep=I->F=g::G.map cr/\∀d∈G,h d.1=0/\oG w d.1)/\(x.deep=J->F=[g]/\eI h G))
structure Inv (γ:Gh) (h0:Nat->Nat) (io:List Nat) (w0:World) (s:St) (f:Fm) (w:World):Prop where
 sl:∀d c,look s.sl d=some c->CR γ w c (f d)
 bx:∀b cs,look s.bx b=some cs->∃T vs,kJ w (γ.β b) T vs/\fu γ w cs vs/\γ.ω (γ.β b)=.box b
 rw:∀r x,look s.rw r=some x->∃F,pz γ.h w x (γ.sl r) F/\F.Nodup/\∀g∈F,γ.ω g=.row r
 own:∀g,γ.ω g≠.free->g < w.heap.size/\(w0.heap.size<=g\/g∈io)
 nS:∀g b,γ.ω g=.box b->γ.h g=0
 fW:∀g,w.heap.size<=g->γ.h g=0
 os:w.os=w0.os
 tape:w.tape=w0.tape
 output:w.output=w0.output
 size:w0.heap.size<=w.heap.size
 frame:∀g,g < w0.heap.size->g∉io->w.heap[g]?=w0.heap[g]?
 cell:∀g j,g < w0.heap.size->j < h0 g->w.cell? ⟨g,j,none⟩=w0.cell? ⟨g,j,none⟩
 mono:∀g,g < w0.heap.size->h0 g<=γ.h g
 hold:∀g,g < w0.heap.size->g∉io->γ.h g=h0 g
 fX:∀g,oG w0 g->oG w g
section
variable {α:Type}
theorem eN(l:M (Nat×α))(d e:Nat):look (sa l d) e=if d=e then O else look l e:=by
 induction l with
 |nil=>simp[sa,look]
 |cons p l b=>
  obtain⟨k,x⟩:=p;unfold sa at b ⊢;by_cases h:k=d
  ·subst h;simp only[iq,bne_self_eq_false,aD,if_false,b,look];by_cases a:k=e<;>simp[a]
  ·have c:(k !=d)=I:=by simp[h]
   simp only[iq,c,if_true,look,b];by_cases a:k=e
   ·subst a;simp[mR h]
   ·simp[a]
theorem mh(l:M (Nat×α)):∀(a:M Nat) (e:Nat) (x:α),look (iV l a) e=Z x->look l e=Z x
 |[],e,x,h=>by simp[iV,look]at h
 |d::a,e,x,h=>by
  unfold iV at h;cases hd:look l d with
  |none=>rw[hd]at h;exact mh l a e x h
  |some y=>
   rw[hd]at h;simp only[look]at h
   split at h
   ·rename_i b;subst b;rw[hd];exact h
   ·exact mh l a e x h
end
theorem xS(i:Nat)(l:M (Nat×C))(d:Nat):look (Qo i l) d=(look l d).map (C.kill i):=by
 induction l with
 |nil=>rfl
 |cons p l a=>
  obtain⟨k,x⟩:=p;unfold Qo at a ⊢;simp only[aZ,look,a]
  split<;>rfl
theorem xR(i:Nat)(l:M (Nat×M C))(d:Nat):look (Qn i l) d=(look l d).map (C.kN i):=by
 induction l with
 |nil=>rfl
 |cons p l a=>
  obtain⟨k,x⟩:=p;unfold Qn at a ⊢;simp only[aZ,look,a]
  split<;>rfl
theorem eI.mono{h a:Nat->Nat}{F:Fp}(b:eI h F)(c:∀g,h g<=a g):eI a F:=λe d=>aH (b e d) (c _)
theorem eI.keeps{h:Nat->Nat}{F:Fp}{w a:World}(b:eI h F)(d:∀g j,j < h g->a.cell? ⟨g,j,O⟩=w.cell? ⟨g,j,O⟩):uE F w a:=
 λf e j c=>d _ j (bR c (b f e))
theorem eI.sub{h:Nat->Nat}{F G:Fp}(b:eI h F)(c:∀a∈G,a∈F):eI h G:=λa d=>b a (c a d)
theorem eI.append{h:Nat->Nat}{F G:Fp}(c:eI h F)(d:eI h G):eI h (F++G):=λb a=>by
 rcases aT.1 a with a|a
 ·exact c b a
 ·exact d b a
mutual
theorem CR.move{γ f:Gh}{w y:World}(i:Nat)(p:∀g,γ.h g<=f.h g)(q:∀g j,j < γ.h g->y.cell? ⟨g,j,O⟩=w.cell? ⟨g,j,O⟩)(t:∀b,b≠i->f.β b=γ.β b)(s:∀r,r≠i->f.sl r=γ.sl r) :
  ∀(c:C) {v:Value},CR γ w c v->CR f y (C.kill i c) v
 | .d x,v,h=>by
  simp only[CR,C.kill]at h ⊢;obtain⟨F,n,l⟩:=h;exact⟨F,n.dL x (l.keeps q),l.mono p⟩
 | .nil _ _,v,h=>by simpa only [CR,C.kill] using h
 | .ref r,v,h=>by
  simp only[C.kill];split
  ·simp only[CR]
  ·rename_i A;simp only[CR]at h ⊢;rw[s r A];exact h
 | .ptr b o,v,h=>by
  simp only[C.kill];split
  ·simp only[CR]
  ·rename_i A;simp only[CR]at h ⊢;rw[t b A];exact h
 | .pj r k a o,v,h=>by
  simp only[C.kill];split
  ·simp only[CR]
  ·rename_i A;simp only[CR]at h ⊢;rw[s r A];exact h
 | .ub cs,v,h=>by
  simp only[CR,C.kill]at h ⊢;obtain⟨b,o,m,F,n,l,D,K,H⟩:=h;refine⟨b,o,m,F,n,l.dL cs (D.keeps q),D.mono p,?_,λj B=>bR (H j B) (p b)⟩;intro j e G;have B:=(bh.1 G).1;rw[fE.length cs l]at B;rw[q b (o+j) (H j B)];exact K j e G
 | .agg cs,v,h=>by
  simp only[CR,C.kill]at h ⊢;obtain⟨m,n,l⟩:=h;exact⟨m,n,fu.move i p q t s cs l⟩
 | .ri cs,v,h=>by
  simp only[CR,C.kill]at h ⊢;obtain⟨m,n,l⟩:=h;exact⟨m,n,fu.move i p q t s cs l⟩
 | .uv,v,h=>by simpa only [CR,C.kill] using h
 | .any,v,h=>by simp only[CR,C.kill]
theorem fu.move{γ f:Gh}{w y:World}(i:Nat)(p:∀g,γ.h g<=f.h g)(q:∀g j,j < γ.h g->y.cell? ⟨g,j,O⟩=w.cell? ⟨g,j,O⟩)(t:∀b,b≠i->f.β b=γ.β b)(s:∀r,r≠i->f.sl r=γ.sl r) :
  ∀(cs:List C) {m:List Value},fu γ w cs m->fu f y (C.kN i cs) m
 |[],m,h=>by simpa only [fu,C.kN] using h
 |c::cs,m,h=>by
  simp only[fu,C.kN]at h ⊢;obtain⟨v,L,n,l,D⟩:=h;exact⟨v,L,n,CR.move i p q t s c l,fu.move i p q t s cs D⟩
end
mutual
theorem CR.mono{γ γ':Gh}{w s:World}(m:∀g,γ.h g<=γ'.h g)(n:∀g j,j < γ.h g->s.cell? ⟨g,j,O⟩=w.cell? ⟨g,j,O⟩)(q:γ'.β=γ.β)(p:γ'.sl=γ.sl) :
  ∀(c:C) {v:Value},CR γ w c v->CR γ' s c v
 | .d x,v,h=>by
  simp only[CR]at h ⊢;obtain⟨F,l,f⟩:=h;exact⟨F,l.dL x (f.keeps n),f.mono m⟩
 | .nil _ _,v,h=>by simpa only [CR] using h
 | .ref r,v,h=>by simp only[CR]at h ⊢;rw[p];exact h
 | .ptr b o,v,h=>by simp only[CR]at h ⊢;rw[q];exact h
 | .pj r k a o,v,h=>by simp only[CR]at h ⊢;rw[p];exact h
 | .ub cs,v,h=>by
  simp only[CR]at h ⊢;obtain⟨b,o,i,F,l,f,y,D,B⟩:=h;refine⟨b,o,i,F,l,f.dL cs (y.keeps n),y.mono m,?_,λj t=>bR (B j t) (m b)⟩;intro j e A;have t:=(bh.1 A).1;rw[fE.length cs f]at t;rw[n b (o+j) (B j t)];exact D j e A
 | .agg cs,v,h=>by
  simp only[CR]at h ⊢;obtain⟨i,l,f⟩:=h;exact⟨i,l,fu.mono m n q p cs f⟩
 | .ri cs,v,h=>by
  simp only[CR]at h ⊢;obtain⟨i,l,f⟩:=h;exact⟨i,l,fu.mono m n q p cs f⟩
 | .uv,v,h=>by simpa only [CR] using h
 | .any,v,h=>by simp only[CR]
theorem fu.mono{γ γ':Gh}{w s:World}(m:∀g,γ.h g<=γ'.h g)(n:∀g j,j < γ.h g->s.cell? ⟨g,j,O⟩=w.cell? ⟨g,j,O⟩)(q:γ'.β=γ.β)(p:γ'.sl=γ.sl) :
  ∀(cs:List C) {i:List Value},fu γ w cs i->fu γ' s cs i
 |[],i,h=>by simpa only [fu] using h
 |c::cs,i,h=>by
  simp only[fu]at h ⊢;obtain⟨v,G,l,f,y⟩:=h;exact⟨v,G,l,CR.mono m n q p c f,fu.mono m n q p cs y⟩
end
theorem pz.dL{h r:Nat->Nat}{w k:World}{x:Row}{v:Value}{F:M Nat}(B:pz h w x v F)(i:∀g∈F,r g=h g/\k.heap[g]?=w.heap[g]?)(K:∀g,h g<=r g)(L:∀g j,j < h g->k.cell? ⟨g,j,O⟩=w.cell? ⟨g,j,O⟩):pz r k x v F:=by
 obtain⟨A,n,c,W,V,U,S,R,Q,P,q⟩:=B;refine⟨A,n,c,W,V,U,S,R,Q,P,?_⟩;rcases q with q|⟨g,o,s,G,a1,a2,a3,a4,a5,a6,Y,X,a9,l⟩
 ·exact .inl q
 ·have p:g∈F:=by
   cases hd:x.deep with
   |true=>rw[(a9 hd).1];simp
   |false=>rw[(l hd).1];simp
  have f:=(i g p).2;have H:uE G w k:=by
   cases hd:x.deep with
   |false=>exact (l hd).2.keeps L
   |true=>
    intro a d j _;exact World.cell?_of_block (w:=w) (i a.1 (by rw[(a9 hd).1];simp;exact .inr ⟨a.2,d⟩)).2
  refine .inr ⟨g,o,s,G,a1,Jz a2 f,?_,a4.dL _ H,a5.dL f,by rw[(i g p).1];exact a6,λb=>by rw[(i g p).1];exact Y b,?_,?_,?_⟩
  ·exact⟨Jz a2 f,λj=>by rw[World.frozen?_of_block (w:=w) f];exact a3.2 j⟩
  ·intro N;obtain⟨C,T,t,y,D⟩:=X N;exact⟨C,T,t,y.dL f,D⟩
  ·intro hd;obtain⟨e,b⟩:=a9 hd;refine⟨e,λa d=>?_⟩;have m:=i a.1 (by rw[e];simp;exact .inr ⟨a.2,d⟩);refine⟨by rw[m.1];exact (b a d).1,Jz (b a d).2.1 m.2,λj=>?_⟩;rw[World.frozen?_of_block (w:=w) m.2];exact (b a d).2.2 j
  ·intro hd;obtain⟨e,b⟩:=l hd;exact⟨e,b.mono K⟩
structure uC (γ:Gh) (M:Own->Prop) (w w':World):Prop where
 os:w'.os=w.os
 tape:w'.tape=w.tape
 output:w'.output=w.output
 size:w.heap.size<=w'.heap.size
 block:∀g,g < w.heap.size->¬M (γ.ω g)->w'.heap[g]?=w.heap[g]?
 cell:∀g j,j < γ.h g->w'.cell? ⟨g,j,none⟩=w.cell? ⟨g,j,none⟩
 fX:∀g,oG w g->oG w' g
section
variable {γ:Gh} {h0:Nat->Nat} {io:M Nat} {w0:World} {s:St} {f:Fm} {w:World}
theorem Inv.ud(d:Inv γ h0 io w0 s f w){b:World}{a:Own->Prop}(c:uC γ a w b):∀g j,j < γ.h g->b.cell? ⟨g,j,O⟩=w.cell? ⟨g,j,O⟩:=c.cell
theorem Inv.Pq(a:Inv γ h0 io w0 s f w){p:World}{M:Own->Prop}(i:uC γ M w p)(B:¬M .free)(C:∀b,M (.box b)->look s.bx b=O)(A:∀r,M (.row r)->look s.rw r=O):Inv γ h0 io w0 s f p where
 sl d c k:=(a.sl d c k).mono (γ':=γ) (λ_=>az _) i.cell rfl rfl c
 bx b cs k:=by
  obtain⟨T,y,m,o,l⟩:=a.bx b cs k;refine⟨T,y,m.dL (i.block _ m.lt ?_),o.mono (γ':=γ) (λ_=>az _) i.cell rfl rfl cs,l⟩;rw[l];intro n;rw[C b n]at k;cases k
 rw r x k:=by
  obtain⟨F,m,o,l⟩:=a.rw r x k;refine⟨F,m.dL (λg e=>⟨rfl,i.block g (a.own g (by rw[l g e];simp)).1 ?_⟩) (λ_=>az _) i.cell,o,l⟩;rw[l g e];intro n;rw[A r n]at k;cases k
 own g e:=⟨bR (a.own g e).1 i.size,(a.own g e).2⟩
 nS:=a.nS
 fW g e:=a.fW g (aH i.size e)
 os:=i.os.trans a.os
 tape:=i.tape.trans a.tape
 output:=i.output.trans a.output
 size:=aH a.size i.size
 frame g e q:=by
  refine (i.block g (bR e a.size) ?_).trans (a.frame g e q);have:γ.ω g=.free:=by
   rcases jL (γ.ω g=.free) with h|h
   ·exact h
   ·rcases (a.own g h).2 with v|v
    ·omega
    ·exact absurd v q
  rw[this];exact B
 cell g j e t:=(i.cell g j (bR t (a.mono g e))).trans (a.cell g j e t)
 mono:=a.mono
 hold:=a.hold
 fX g e:=i.fX g (a.fX g e)
theorem Inv.sub(b:Inv γ h0 io w0 s f w){a:St}(i:∀d c,look a.sl d=Z c->look s.sl d=Z c)(g:∀d c,look a.bx d=Z c->look s.bx d=Z c)(e:∀d c,look a.rw d=Z c->look s.rw d=Z c):Inv γ h0 io w0 a f w:=
 {b with sl:=λd c h=>b.sl d c (i d c h),bx:=λd c h=>b.bx d c (g d c h),rw:=λd c h=>b.rw d c (e d c h) }
theorem Inv.get(a:Inv γ h0 io w0 s f w)(d:Nat):CR γ w (s.get d) (f d):=by
 unfold St.get;cases h:look s.sl d with
 |none=>simp[CR]
 |some c=>exact a.sl d c h
theorem Inv.put(b:Inv γ h0 io w0 s f w)(d:Nat)(c:C)(v:Value)(g:CR γ w c v):Inv γ h0 io w0 (s.put (Z d) c) (B3 f d v) w:=
 {b with
  sl:=λe j h=>by
   simp only[St.put,look]at h;by_cases a:d=e
   ·subst a;simp at h;subst h
    simpa [B3] using g
   ·rw[if_neg a]at h;have:B3 f d v e=f e:=by
     unfold B3;cases i:hX e d
     ·rfl
     ·exact absurd (l9 i).symm a
    rw[this];exact b.sl e j h }
theorem Inv.settle(a:Inv γ h0 io w0 s f w){h':Nat->Nat}{ω':Nat->Own}(l:∀g,γ.h g<=h' g)(n:∀g,h' g≠γ.h g->g < w.heap.size/\(w0.heap.size<=g\/g∈io)/\(∀b j,look s.bx b=Z j->γ.ω g≠.box b)/\∀r x,look s.rw r=Z x->γ.ω g≠.row r)
  (m:∀g,ω' g=γ.ω g\/((ω' g=.free\/ω' g=.ej)/\γ.ω g≠.free/\(∀b j,look s.bx b=Z j->γ.ω g≠.box b)/\∀r x,look s.rw r=Z x->γ.ω g≠.row r)) (v:∀g b,ω' g=.box b->h' g=0):Inv {γ with h:=h',ω:=ω' } h0 io w0 s f w where
 sl d c i:=(a.sl d c i).mono (γ':={γ with h:=h',ω:=ω' }) l (λ_ _ _=>rfl) rfl rfl c
 bx b j i:=by
  obtain⟨T,t,p,o,k⟩:=a.bx b j i;refine⟨T,t,p,o.mono (γ':={γ with h:=h',ω:=ω' }) l (λ_ _ _=>rfl) rfl rfl j,?_⟩;rcases m (γ.β b) with h|⟨_,_,h,_⟩
  ·exact h.trans k
  ·exact absurd k (h b j i)
 rw r x i:=by
  obtain⟨F,p,o,k⟩:=a.rw r x i;refine⟨F,p.dL (λg e=>⟨?_,rfl⟩) l (λ_ _ _=>rfl),o,λg e=>?_⟩
  ·rcases jL (h' g=γ.h g) with h|h
   ·exact h
   ·exact absurd (k g e) ((n g h).2.2.2 r x i)
  ·rcases m g with h|⟨_,_,_,h⟩
   ·exact h.trans (k g e)
   ·exact absurd (k g e) (h r x i)
 own g e:=by
  rcases m g with h|⟨_,h,_⟩
  ·exact a.own g (by rw[<- h];exact e)
  ·exact a.own g h
 nS:=v
 fW g e:=by
  rcases jL (h' g=γ.h g) with h|h
  ·exact h.trans (a.fW g e)
  ·have:=(n g h).1;omega
 os:=a.os
 tape:=a.tape
 output:=a.output
 size:=a.size
 frame:=a.frame
 cell:=a.cell
 mono g e:=aH (a.mono g e) (l g)
 hold g e q:=by
  rcases jL (h' g=γ.h g) with h|h
  ·exact h.trans (a.hold g e q)
  ·rcases (n g h).2.1 with h'|h'
   ·omega
   ·exact absurd h' q
 fX:=a.fX
end
end
section
open Go.RowKit
def ki(N:Nat):Operand->KX->Bool
 | .tmp d,.s f=>d ==f && gh d N
 | .const (.int k n),.k (.d (.int e c))=>k ==e && n ==c && k.wrap n ==n
 | .const (.bool b),.k (.d (.bool g))=>b ==g
 | .const (.string s),.k (.d (.str a))=>s.data.toList ==a.data.toList && nP s.size maxLen
 | .const (.slice O 0 0),.k (.nil k _)=>gh 0 k
 |_,_=>J
section
variable {γ:Gh} {h0:Nat->Nat} {io:M Nat} {w0:World} {s:St} {f:Fm} {w:World} {N:Nat}
theorem iP{k:IntKind}{n:Int}(h:k.wrap n=n):CR γ w (.d (.int k n)) (.int k n):=by
 simp only[CR,Rp];exact⟨[],by simp[h],λ_ h=>by simp at h⟩
theorem jq{b:Bool}:CR γ w (.d (.bool b)) (.bool b):=by
 simp only[CR,Rp];exact⟨[],by simp,λ_ h=>by simp at h⟩
theorem Bg{t:z}(h:t.size<=maxLen):CR γ w (.d (.str t)) (.string t):=by
 simp only[CR,Rp];exact⟨[],by simp[h],λ_ h=>by simp at h⟩
theorem iM{k:IntKind}{n:Int}{v:Value}(h:CR γ w (.d (.int k n)) v):v=.int k n/\k.wrap n=n:=by
 simp only[CR,Rp]at h;grind
theorem qR{b:Bool}{v:Value}(h:CR γ w (.d (.bool b)) v):v=.bool b:=by
 simp only[CR,Rp]at h;grind
theorem Db{t:z}{v:Value}(h:CR γ w (.d (.str t)) v):v=.string t/\t.size<=maxLen:=by
 simp only[CR,Rp]at h;grind
theorem JX{a b:z}(h:a.data.toList=b.data.toList):a=b:=by
 cases a;simp_all
theorem ct(b:Inv γ h0 io w0 s f w){x:Operand}{kx:KX}(ok:ki N x kx=I):CR γ w (gj s kx) ((fr f N).eval x):=by
 unfold ki at ok
 split at ok
 ·simp only[ai,beq_iff_eq]at ok;obtain⟨rfl,hd⟩:=ok;rw[Cz f (by simpa using hd)];exact b.get _
 ·simp only[ai,beq_iff_eq]at ok;obtain⟨⟨rfl,rfl⟩,a⟩:=ok;exact iP a
 ·simp only[beq_iff_eq]at ok;subst ok;exact jq
 ·simp only[ai,beq_iff_eq,Nat.ble_eq]at ok;obtain⟨c,a⟩:=ok;rw[JX c]at a ⊢;exact Bg a
 ·simp only[nR]at ok;exact⟨rfl,ok⟩
 ·cases ok
end
structure qM (γ:Gh) (s:St) (w w':World):Prop where
 cell:∀g j,j < γ.h g->w'.cell? ⟨g,j,none⟩=w.cell? ⟨g,j,none⟩
 bx:∀b cs,look s.bx b=some cs->w'.heap[γ.β b]?=w.heap[γ.β b]?
 rw:∀r x,look s.rw r=some x->∀g,γ.ω g=.row r->w'.heap[g]?=w.heap[g]?
theorem qM.refl(a:Gh)(s:St)(w:World):qM a s w w:=⟨λ_ _ _=>rfl,λ_ _ _=>rfl,λ_ _ _ _ _=>rfl⟩
def Cg(N:Nat):M Operand->M KX->Bool
 |[],[]=>I
 |x::xs,y::ys=>ki N x y && Cg N xs ys
 |_,_=>J
theorem EP{b:Gh}{g:Nat->Nat}{e:M Nat}{d:World}{s:St}{f:Fm}{w:World}{N:Nat}(c:Inv b g e d s f w):∀(a:M Operand) (ys:M KX),Cg N a ys=I->fu b w (ys.map (gj s)) (a.map (fr f N).eval)
 |[],[],_=>by simp[fu]
 |[],_::_,h=>by simp[Cg]at h
 |_::_,[],h=>by simp[Cg]at h
 |x::a,y::ys,h=>by
  simp only[Cg,ai]at h;simp only[aZ,fu];exact⟨_,_,rfl,ct c h.1,EP c a ys h.2⟩
def okZ:Value->C->Bool
 | .int k n,.d (.int e c)=>k ==e && n ==c && k.wrap n ==n
 | .bool b,.d (.bool f)=>b ==f
 | .string s,.d (.str a)=>s.data.toList ==a.data.toList && nP s.size maxLen
 | .slice O 0 0,.nil k _=>gh 0 k
 |_,_=>J
def JJ:M Value->M C->Bool
 |[],[]=>I
 |v::a,c::cs=>okZ v c && JJ a cs
 |_,_=>J
theorem zx{e:Gh}{w:World}:∀(a:M Value) (d:M C),JJ a d=I->fu e w d a
 |[],[],_=>by simp[fu]
 |[],_::_,h=>by simp[JJ]at h
 |_::_,[],h=>by simp[JJ]at h
 |v::a,c::d,h=>by
  simp only[JJ,ai]at h;simp only[fu];refine⟨v,a,rfl,?_,zx a d h.2⟩;have ok:=h.1;unfold okZ at ok
  split at ok
  ·simp only[ai,beq_iff_eq]at ok;obtain⟨⟨rfl,rfl⟩,b⟩:=ok;exact iP b
  ·simp only[beq_iff_eq]at ok;subst ok;exact jq
  ·simp only[ai,beq_iff_eq,Nat.ble_eq]at ok;obtain⟨f,b⟩:=ok;rw[JX f]at b ⊢;exact Bg b
  ·simp only[nR]at ok;simp only[CR];exact⟨trivial,ok⟩
  ·cases ok
def KA(P:Program)(T:TypeId):u Bool:=
 match P.underlying T with
 |some (.struct _)=>Z I
 |some (.array _ _)=>Z I
 |some _=>Z J
 |none=>O
def oR(P:Program)(T:TypeId):u Nat:=(P.info? T).map (·.size)
theorem pV{P:Program}{T:TypeId}{b:Bool}(h:KA P T=Z b)(w:World):(isAgg T).run P w=.ok b w:=by
 unfold KA at h;cases a:P.underlying T with
 |none=>rw[a]at h;cases h
 |some d=>
  rw[a]at h;cases d<;>simp at h<;>subst h<;>simp[isAgg,run_underlying a]
theorem run_sizeOf{P:Program}{T:TypeId}{n:Nat}(h:oR P T=Z n)(w:World):(mP T).run P w=.ok n w:=by
 unfold oR at h;cases a:P.info? T with
 |none=>rw[a]at h;cases h
 |some i=>
  rw[a]at h;simp at h;subst h;simp[mP,typeInfo,a]
def NT(P:Program)(T:TypeId)(i o:Nat):Bool:=
 match P.underlying T with
 |some (.struct fs)=>match fs[i]? with
  |some a=>a.offset ==o && (match oR P a.type with
   |some n=>gh 0 n
   |none=>J)
  |none=>J
 |_=>J
def sliceB(P:Program)(T:TypeId)(k:Nat):Bool:=
 match P.underlying T with
 |some (.slice a)=>oR P a ==Z k
 |_=>J
def afc(P:Program)(T:TypeId)(n k:Nat):Bool:=
 match P.underlying T with
 |some (.array m a)=>m ==n && oR P a ==Z k
 |_=>J
def afd(P:Program)(T:TypeId):Bool:=
 match P.underlying T with
 |some (.array _ a)=>(P.info? a).isSome
 |_=>J
def isStr(P:Program)(T:TypeId):Bool:=
 match P.underlying T with
 |some .string=>I
 |_=>J
def LL(P:Program)(T:TypeId):Bool:=
 match P.underlying T with
 |some (.slice _)=>I
 |_=>J
def JW(P:Program)(T:TypeId):u Nat:=
 match P.underlying T with
 |some (.slice a)=>oR P a
 |_=>O
def acM(P:Program)(T:TypeId):Bool:=
 match P.underlying T with
 |some (.slice a)=>(match P.underlying a with
  |some (.int .u8)=>I
  |_=>J)
 |_=>J
def isBool(P:Program)(T:TypeId):Bool:=
 match P.underlying T with
 |some .bool=>I
 |_=>J
def ZP(P:Program)(T:TypeId):u IntKind:=
 match P.underlying T with
 |some (.int k)=>Z k
 |_=>O
def zA(P:Program)(T:TypeId):u (M (Nat×Nat)):=
 match P.underlying T with
 |some (.struct fs)=>fs.toList.mapM (λf=>(P.info? f.type).map λi=>(f.offset,i.size))
 |_=>O
def uh(P:Program)(T:TypeId):u (M Value):=((P.info? T).bind (·.zero)).map λa=>a.cells.toList
def wD(N:Nat)(pl:M (Nat×Nat)):M (Nat×Operand)->M (Nat×Nat×KX)->Bool
 |[],[]=>I
 |(i,x)::a,(o,n,kx)::b=>pl[i]? ==Z (o,n) && ki N x kx && wD N pl a b
 |_,_=>J
def EN(N:Nat):u Operand->u KX->Bool
 |none,O=>I
 |some x,Z y=>ki N x y
 |_,_=>J
theorem oP{e:Gh}{l:Nat->Nat}{h:M Nat}{g:World}{s:St}{f:Fm}{w:World}{N:Nat}(k:Inv e l h g s f w){o:u Operand}{kx:u KX}{a m:Nat}(c:EN N o kx=I)(b:sL s kx a=Z m):Ni (fr f N).eval o a m:=by
 cases o with
 |none=>
  cases kx with
  |none=>simp only[sL,aa]at b;exact b.symm
  |some y=>simp[EN]at c
 |some x=>
  cases kx with
  |none=>simp[EN]at c
  |some y=>
   have d:=ct k c;simp only[sL]at b
   split at b
   ·rename_i n j;rw[j]at d;obtain⟨i,_⟩:=iM d
    split at b
    ·simp only[aa]at b;simp only[Ni,i]
     congr 1
     omega
    ·cases b
   ·cases b
def tK(P:Program)(N:Nat):Op->KO->Bool
 | .move x,.mv y=>ki N x y
 | .assign x,.mv y=>ki N x y
 | .pick c a b,.pick v A w=>ki N c v && ki N a A && ki N b w
 | .build T p,.build m t=>(match uh P T,zA P T with
   |some d,Z pl=>JJ d m && wD N pl p.toList t
   |_,_=>J)
 | .load T x,.ld n y=>ki N x y && (if n=0 then KA P T ==Z J else KA P T ==Z I && oR P T ==Z n)
 | .fieldAddr T x i,.fa o y=>ki N x y && NT P T i o
 | .indexAddr T x i,.ia k y j=>ki N x y && ki N i j && sliceB P T k
 | .build T p,.zro m=>p.isEmpty && afd P T && (match uh P T with
   |some d=>JJ d m
   |none=>J)
 | .indexAddr T x i,.ixa n k y j=>ki N x y && ki N i j && afc P T n k
 | .index T x i,.Xp y j=>ki N x y && ki N i j && isStr P T
 | .binOp op T x y _,.bin g f e=>Z' (op=g) && ki N x f && ki N y e
 | .binOp op T x y _,.TI g f e=>Z' (op=g) && ki N x f && ki N y e && isBool P T
 | .unOp .not _ x,.not y=>ki N x y
 | .unOp .neg _ x,.neg y=>ki N x y
 | .convert T s x,.conv k y=>ki N x y && (ZP P T).isSome && ZP P s ==Z k
 | .call c,.len y=>(match c.callee,c.args.toList,c.argTypes.toList with
   | .builtin .len,[x],[T]=>ki N x y && LL P T
   |_,_,_=>J)
 | .call c,.sln y=>(match c.callee,c.args.toList,c.argTypes.toList with
   | .builtin .len,[x],[T]=>ki N x y && isStr P T
   |_,_,_=>J)
 | .call c,.min y e=>(match c.callee,c.args.toList with
   | .builtin .min,[x,f]=>ki N x y && ki N f e
   |_,_=>J)
 | .call c,.max y e=>(match c.callee,c.args.toList with
   | .builtin .max,[x,f]=>ki N x y && ki N f e
   |_,_=>J)
 | .extract x i,.ext y j=>ki N x y && i ==j
 | .slice T x O (Z h) O,.slc y j=>ki N x y && ki N h j && LL P T && (JW P T).isSome
 | .slice T x q r O,.Ti y l h=>ki N x y && EN N q l && EN N r h && isStr P T
 | .slice T x q r O,.zZ k y l h=>ki N x y && EN N q l && EN N r h && JW P T ==Z k
 | .nilCheck x,.nck y=>ki N x y
 | .convert T s x,.Nu y=>ki N x y && isStr P s && acM P T
 |_,_=>J
theorem eh{a:Type}:∀(l:M a) (i:Nat),nth l i=l[i]?
 |[],i=>by simp[nth]
 |x::l,0=>by simp[nth]
 |x::l,i+1=>by simp[nth,eh l i]
theorem fu.length{d:Gh}{w:World}:∀{a:M C} {b:M Value},fu d w a b->b.length=a.length
 |[],_,h=>by simp only[fu]at h;simp[h]
 |c::a,_,h=>by
  simp only[fu]at h;obtain⟨v,f,rfl,_,e⟩:=h;simp[fu.length e]
theorem fu.at_{d:Gh}{w:World}:∀{b:M C} {e:M Value},fu d w b e->∀{i:Nat} {c:C},b[i]?=Z c->∃v,e[i]?=Z v/\CR d w c v
 |[],_,_,i,c,a=>by simp at a
 |x::b,_,h,i,c,a=>by
  simp only[fu]at h;obtain⟨v,j,rfl,g,f⟩:=h;cases i with
  |zero=>simp at a;subst a;exact⟨v,rfl,g⟩
  |succ i=>simp at a;simpa using fu.at_ f a
theorem fu.drop{b:Gh}{w:World}:∀{a:M C} {d:M Value} (n:Nat),fu b w a d->fu b w (a.drop n) (d.drop n)
 |a,_,0,h=>by simpa using h
 |[],_,n+1,h=>by simp only[fu]at h;subst h;simp[fu]
 |c::a,_,n+1,h=>by
  simp only[fu]at h;obtain⟨v,f,rfl,_,e⟩:=h
  simpa using fu.drop n e
theorem fu.take{b:Gh}{w:World}:∀{a:M C} {d:M Value} (n:Nat),fu b w a d->fu b w (a.take n) (d.take n)
 |a,_,0,h=>by simp[fu]
 |[],_,n+1,h=>by simp only[fu]at h;subst h;simp[fu]
 |c::a,_,n+1,h=>by
  simp only[fu]at h;obtain⟨v,g,rfl,f,e⟩:=h;simp only[dy,fu];exact⟨v,_,rfl,f,fu.take n e⟩
theorem fu.append{a:Gh}{w:World}:∀{d g:M C} {e f:M Value},fu a w d e->fu a w g f->fu a w (d++g) (e++f)
 |[],_,_,_,h,b=>by simp only[fu]at h;subst h;simpa using b
 |c::d,_,_,_,h,b=>by
  simp only[fu]at h;obtain⟨v,k,rfl,j,i⟩:=h;simp only[au,fu];exact⟨v,_,rfl,j,fu.append i b⟩
theorem fu.xt{a:Gh}{w:World}{f e:M C}{b c:M Value}(o:Nat)(h:fu a w f b)(d:fu a w e c):fu a w (gU f o e) (cL b o c):=by
 unfold gU cL;rw[<- d.length];exact ((h.take o).append d).append (h.drop _)
theorem fu.ofC{b:Gh}{w:World}:∀{a:M D} {c:M Value} {F:Fp},fE w a c F->eI b.h F->fu b w (a.map .d) c
 |[],_,_,h,_=>by simp only[fE]at h;simp[fu,h.1]
 |d::a,_,_,h,e=>by
  simp only[fE]at h;obtain⟨v,i,j,k,rfl,rfl,g,f⟩:=h;simp only[aZ,fu];refine⟨v,i,rfl,?_,fu.ofC f (e.sub (by simp_all))⟩;simp only[CR];exact⟨j,g,e.sub (by simp_all)⟩
theorem CR.cells{g:Gh}{w:World}{c:C}{v:Value}(h:CR g w c v)(a:c.cells.all C.cell=I):fu g w c.cells v.cells.toList/\(c.isAgg=J->v.cells=#[v])/\(c.isAgg=I->∃f:M Value,v=.agg f.toArray):=by
 cases c with
 |agg o=>
  obtain⟨f,rfl,i⟩:=h;exact⟨by simpa [C.cells,Value.cells] using i,by simp[C.isAgg],λ_=>⟨f,rfl⟩⟩
 |d x=>
  have b:=h;obtain⟨F,j,_⟩:=h;have l:=j.qZ;have e:v.cells=#[v]:=by cases v<;>simp_all[Value.cells,one]
  refine⟨?_,λ_=>e,by simp[C.isAgg]⟩;rw[e];exact⟨v,[],rfl,b,rfl⟩
 |nil k m=>
  have b:=h;obtain⟨rfl,_⟩:=h;refine⟨?_,λ_=>rfl,by simp[C.isAgg]⟩;exact⟨_,[],rfl,b,rfl⟩
 |ref r=>
  have b:=h;obtain⟨_,A,n,c,rfl⟩:=h;refine⟨?_,λ_=>rfl,by simp[C.isAgg]⟩;exact⟨_,[],rfl,b,rfl⟩
 |ptr _ _=>simp[C.cells,C.cell]at a
 |pj _ _ _ _=>simp[C.cells,C.cell]at a
 |ub _=>simp[C.cells,C.cell]at a
 |ri _=>simp[C.cells,C.cell]at a
 |uv=>simp[C.cells,C.cell]at a
 |any=>simp[C.cells,C.cell]at a
theorem W4(off:Nat):∀(b:M Value) (j:Nat) (A:Array Value),off+j+b.length<=A.size->(b.zipIdx j).foldl (λa p=>a.setIfInBounds (off+p.2) p.1) A=(cL A.toList (off+j) b).toArray
 |[],j,A,_=>by simp[cL]
 |v::b,j,A,h=>by
  simp only[aG]at h;simp only[List.zipIdx_cons,wO];rw[W4 off b (j+1) _ (by simp;omega),<- cO,<- vQ _ _ _ _ (by simp;omega)];simp
theorem Q3(off:Nat)(b:M Value)(A:Array Value)(h:off+b.length<=A.size):b.toArray.zipIdx.foldl (λa (c,j)=>a.setIfInBounds (off+j) c) A=(cL A.toList off b).toArray:=by
 have d:=W4 off b 0 A (by simpa using h);simp_all
theorem Li{r:Gh}{S:Nat->Nat}{B:M Nat}{A:World}{s:St}{f:Fm}{w:World}{N:Nat}(y:Inv r S B A s f w){pl:M (Nat×Nat)}{place:Nat->u (Nat×Nat)}(v:∀i,place i=pl[i]?) :
  ∀(k:M (Nat×Operand)) (l:M (Nat×Nat×KX)) (g:M C) (a:M Value) (d:M C),wD N pl k l=I->fu r w g a->BD g (l.map λp=>(p.1,p.2.1,(gj s p.2.2).cells))=Z d->
   ∃q:M Value,Instr.fill place a.toArray (k.map λp=>(p.1,(fr f N).eval p.2))=Z q.toArray/\fu r w d q
 |[],[],g,a,d,_,m,b=>by
  simp only[cj,BD,aa]at b;subst b;exact⟨a,rfl,m⟩
 |[],_::_,_,_,_,h,_,_=>by simp[wD]at h
 |_::_,[],_,_,_,h,_,_=>by simp[wD]at h
 |(i,x)::k,(o,n,kx)::l,g,a,d,h,m,b=>by
  simp only[wD,ai,beq_iff_eq]at h;obtain⟨⟨R,Q⟩,P⟩:=h;simp only[aZ,BD]at b
  split at b
  ·rename_i H;obtain⟨c1,W,U⟩:=H;have F:=ct y Q;obtain⟨t,_,_⟩:=F.cells U;have G:=t.length;obtain⟨q,L,K⟩:=Li y v k l _ _ d P (m.xt o t) b;refine⟨q,?_,K⟩;simp only[aZ,Instr.fill,v,R];have V:((fr f N).eval x).cells.size=n:=by rw[<- eU,G];exact c1
   have D:=m.length;rw[if_neg (by simp only[oz];simp;omega)];have e:((fr f N).eval x).cells.zipIdx.foldl (λT (c,j)=>T.setIfInBounds (o+j) c) a.toArray=(cL a o ((fr f N).eval x).cells.toList).toArray:=by
    have:=Q3 o ((fr f N).eval x).cells.toList a.toArray (by simp;omega)
    simpa using this
   rw[e];exact L
  ·cases b
theorem UB{P:Program}{T:TypeId}{a:M Value}{pl:M (Nat×Nat)}(b:uh P T=Z a)(c:zA P T=Z pl)(parts:M (Nat×Value)):P.built T parts=Instr.fill (λi=>pl[i]?) a.toArray parts:=by
 unfold zA at c;unfold uh at b;cases d:P.info? T with
 |none=>rw[d]at b;simp at b
 |some f=>
  rw[d]at b;cases e:f.zero with
  |none=>simp[e]at b
  |some z0=>
   simp[e]at b;subst b
   split at c
   ·rename_i fs g;simp only[Program.built,d,g,e,c];simp
   ·cases c
section
variable {P:Program} {γ:Gh} {h0:Nat->Nat} {io:M Nat} {w0:World} {s:St} {f:Fm} {w:World} {N:Nat} {dst:u Tmp} {ty:TypeId} {pos:String} {aft:Array Edge} {gd:u (Nat×Bool)}
theorem aay(o:Inv γ h0 io w0 s f w){T:TypeId}{e:Array (Nat×Operand)}{h:M C}{j:M (Nat×Nat×KX)}{c:C}(b:tK P N (.build T e) (.build h j)=I)(g:jj s (.build h j)=Z c) :
  ∃v,CR γ w c v/\∀d,(execOp (fr f N).eval ⟨dst,.build T e,ty,pos,aft,gd⟩).run P d=.ok (.value v) d:=by
 simp only[tK]at b
 split at b
 ·rename_i a pl m n;simp only[ai]at b;simp only[jj,aj]at g;obtain⟨l,g,rfl⟩:=g;obtain⟨k,r,q⟩:=Li o (place:=λi=>pl[i]?) (λ_=>rfl) e.toList j h a l b.2 (zx _ _ b.1) g;refine⟨.agg k.toArray,by simp only[CR];exact⟨k,rfl,q⟩,λd=>?_⟩;have p:=run_build (P:=P) d T (e.map λ(i,x)=>(i,(fr f N).eval x)) k.toArray (by rw[UB m n];simpa using r);simp[execOp,p]
 ·cases b
theorem ahC(j:Inv γ h0 io w0 s f w){T:TypeId}{o:Array (Nat×Operand)}{n:M C}{c:C}(e:tK P N (.build T o) (.zro n)=I)(g:jj s (.zro n)=Z c) :
  ∃v,CR γ w c v/\∀i,(execOp (fr f N).eval ⟨dst,.build T o,ty,pos,aft,gd⟩).run P i=.ok (.value v) i:=by
 simp only[tK,ai,Array.isEmpty_iff]at e;obtain⟨⟨rfl,h⟩,e⟩:=e
 split at e
 ·rename_i a d;simp only[jj]at g
  split at g
  ·simp only[aa]at g;subst g;refine⟨.agg a.toArray,by simp only[CR];exact⟨a,rfl,zx _ _ e⟩,λi=>?_⟩;have t:P.built T []=Z a.toArray:=by
    unfold uh at d;unfold afd at h;cases j:P.info? T with
    |none=>rw[j]at d;simp at d
    |some p=>
     rw[j]at d;cases l:p.zero with
     |none=>simp[l]at d
     |some z0=>
      simp[l]at d;subst d
      split at h
      ·rename_i m b q;rw[cy]at h;obtain⟨x,k⟩:=h;simp[Program.built,j,q,l,k,Instr.fill]
      ·cases h
   have r:=run_build (P:=P) i T #[] a.toArray t;simp[execOp,r]
  ·cases g
 ·cases e
theorem adn(hi:Inv γ h0 io w0 s f w){T:TypeId}{x:Operand}{y:KX}{n:Nat}{c:C}(cR:tK P N (.load T x) (.ld n y)=I)(q:jj s (.ld n y)=Z c) :
  ∃v,CR γ w c v/\∀l,qM γ s w l->(execOp (fr f N).eval ⟨dst,.load T x,ty,pos,aft,gd⟩).run P l=.ok (.value v) l:=by
 simp only[tK,ai]at cR;obtain⟨hx,lz⟩:=cR;have K:=ct hi hx;have fin:∀(b o:Nat) (D:M Value),(fr f N).eval x=.pointer (Z ⟨b,o,O⟩)->(∀l,qM γ s w l->iH l b o D)->(n=0->D.length=1)->(n≠0->D.length=n)->
   ∀l,qM γ s w l->(execOp (fr f N).eval ⟨dst,.load T x,ty,pos,aft,gd⟩).run P l=.ok (.value (if n=0 then D.headD undef else .agg D.toArray)) l:=by
  intro b o D U L h1 X l t;by_cases B:n=0
  ·subst B;simp only[if_true,beq_iff_eq]at lz ⊢;obtain⟨v,rfl⟩:=dP.1 (h1 rfl);exact Kf (λw=>pV lz w) U (by have:=L l t 0 v rfl;simpa using this)
  ·simp only[if_neg B,ai,beq_iff_eq]at lz ⊢;exact Kg (λw=>pV lz.1 w) (λw=>run_sizeOf lz.2 w) U (X B) (L l t)
 simp only[jj]at q
 split at q
 ·rename_i b o W;rw[W]at K;simp only[CR]at K
  split at q
  ·rename_i cs L;obtain⟨T',D,h1,X,h3⟩:=hi.bx b cs L;have H:=X.length;have R:∀(m:Nat) l,qM γ s w l->iH l (γ.β b) o ((D.drop o).take m):=by
    intro m l t;have:=(h1.dL (t.bx b cs L)).Oc;have h4:=this.sub o m
    simpa using h4
   by_cases B:n=0
   ·subst B;simp only[if_true,eh]at q;obtain⟨v,S,hc⟩:=X.at_ q;have ed:=(bh.1 S).1;have Y:(D.drop o).take 1=[v]:=by
     rw[px,qB,S];rfl
    refine⟨v,hc,λl t=>?_⟩;have:=fin _ _ _ K (R 1) (λ_=>by rw[Y];rfl) (λh=>absurd rfl h) l t;rw[Y]at this
    simpa using this
   ·rw[if_neg B]at q
    split at q
    ·rename_i ho;simp only[aa]at q;subst q;refine⟨.agg ((D.drop o).take n).toArray,by simp only[CR];exact⟨_,rfl,(X.drop o).take n⟩,λl t=>?_⟩;have:=fin _ _ _ K (R n) (λh=>absurd h B) (λ_=>by simp;omega) l t
     simpa [B] using this
    ·cases q
  ·cases q
 ·rename_i cs W;rw[W]at K;simp only[CR]at K;obtain⟨b,o,D,F,U,R4,kZ,L,hh⟩:=K;have H:=fE.length cs R4;have R:∀(m:Nat) l,qM γ s w l->iH l b o (D.take m):=by
   intro m l t;have:iH l b o D:=by
    intro j a hu;have hj:=(bh.1 hu).1;rw[t.cell b (o+j) (hh j (by omega))];exact L j a hu
   have h4:=this.sub 0 m
   simpa using h4
  by_cases B:n=0
  ·subst B;simp only[if_true,eh,aj]at q;obtain⟨d,hd,rfl⟩:=q;obtain⟨v,G,S,yr,hG⟩:=R4.at_ hd;have Y:D.take 1=[v]:=by
    rw[px,List.head?_eq_getElem?,S];rfl
   refine⟨v,by simp only[CR];exact⟨G,yr,kZ.sub hG⟩,λl t=>?_⟩;have:=fin _ _ _ U (R 1) (λ_=>by rw[Y];rfl) (λh=>absurd rfl h) l t;rw[Y]at this
   simpa using this
  ·rw[if_neg B]at q
   split at q
   ·rename_i ho;simp only[aa]at q;subst q;obtain⟨G,h4,h5⟩:=fE.take cs n R4;refine⟨.agg (D.take n).toArray,by simp only[CR];exact⟨_,rfl,fu.ofC h4 (kZ.sub h5)⟩,λl t=>?_⟩;have:=fin _ _ _ U (R n) (λh=>absurd h B) (λ_=>by simp;omega) l t
    simpa [B] using this
   ·cases q
 ·rename_i r k i o W;rw[W]at K;simp only[CR]at K;obtain⟨g,p,m,cc,wk,U⟩:=K
  split at q
  ·rename_i row L
   split at q
   ·rename_i e IN
    split at q
    ·rename_i hc;obtain⟨hk,ho,hpl⟩:=hc;subst hk;obtain⟨F,hR,_,sS⟩:=hi.rw r row L;obtain⟨A,n',c',q1,q2,q3,q4,q5,q6,q7,q8⟩:=hR;rw[wk]at q1;simp only[Value.slice.injEq]at q1;obtain⟨rfl,rfl,rfl⟩:=q1;rcases q8 with ⟨q8,_⟩|⟨g',p',xs,G,a1,a2,a3,a4,a5,a6,a7,a8,a9,tZ⟩
     ·cases q8
     ·simp only[aa,Addr.mk.injEq,and_true]at a1;obtain⟨rfl,rfl⟩:=a1;rw[eh]at IN;obtain⟨G',R4,hG'⟩:=a4.at_ q6 IN;have hlx:=fy.length row.es a4 q6;have acz:=(bh.1 IN).1;have AA:=q6 e (dS IN);have hgF:g∈F:=by
       cases hd:row.deep with
       |true=>rw[(a9 hd).1];simp
       |false=>rw[(tZ hd).1];simp
      have R:∀(m:Nat) l,qM γ s w l->iH l g (p+i * row.k+o) ((((xs.drop (i * row.k)).take row.k).drop o).take m):=by
       intro m l t;have h1:iH l g p xs:=a5.dL (t.rw r row L g (sS g hgF));have X:=(h1.sub (i * row.k) row.k).sub o m;exact X
      have abF:∀(m:Nat),dW ((e.drop o).take m)=I\/row.deep=J->∃G2,fE w ((e.drop o).take m) ((((xs.drop (i * row.k)).take row.k).drop o).take m) G2/\eI γ.h G2:=by
       intro m V;obtain⟨G1,r1,s1⟩:=fE.drop e o R4;obtain⟨G2,Q,s2⟩:=fE.take _ m r1;refine⟨G2,Q,?_⟩;rcases V with V|V
       ·have:G2=[]:=Q.plain (by simpa [dW] using V);subst this;exact λ_ h=>by simp at h
       ·exact (tZ V).2.sub (λbe W=>hG' be (s1 be (s2 be W)))
      have agk:∀m,m=max n 1->dW ((e.drop o).take m)=I\/row.deep=J:=by
       intro m V;subst V
       simpa using hpl
      have H:((xs.drop (i * row.k)).take row.k).length=row.k:=by
       rw[fE.length e R4,AA]
      by_cases B:n=0
      ·subst B;simp only[if_true,eh,aj]at q;obtain⟨d,hd,rfl⟩:=q;obtain⟨G2,Q,s2⟩:=abF 1 (agk 1 (by simp));have Y:(e.drop o).take 1=[d]:=by rw[px,qB,hd];rfl
       rw[Y]at Q;obtain⟨v,G3,S,yr,hG4⟩:=Q.at_ (i:=0) (d:=d) rfl;have e2:(((xs.drop (i * row.k)).take row.k).drop o).take 1=[v]:=by
        have DL:=fE.length _ Q;simp only[aG,aP]at DL;obtain⟨a,hu⟩:=dP.1 DL;rw[hu]at S ⊢;simp at S;rw[S]
       refine⟨v,by simp only[CR];exact⟨G3,yr,s2.sub hG4⟩,λl t=>?_⟩;have:=fin _ _ _ U (R 1) (λ_=>by rw[e2];rfl) (λh=>absurd rfl h) l t;rw[e2]at this
       simpa using this
      ·rw[if_neg B]at q;simp only[aa]at q;subst q;have acB:max n 1=n:=by omega
       obtain⟨G2,Q,s2⟩:=abF n (agk n acB.symm);refine⟨.agg ((((xs.drop (i * row.k)).take row.k).drop o).take n).toArray,by simp only[CR];exact⟨_,rfl,fu.ofC Q s2⟩,λl t=>?_⟩;have:=fin _ _ _ U (R n) (λh=>absurd h B) (λ_=>by simp only[bj,dK,H];omega) l t
       simpa [B] using this
    ·cases q
   ·cases q
  ·cases q
 ·cases q
theorem akx(Y:Inv γ h0 io w0 s f w){T:TypeId}{x:Operand}{y:KX}{i o:Nat}{c:C}(K:tK P N (.fieldAddr T x i) (.fa o y)=I)(e:jj s (.fa o y)=Z c) :
  ∃v,CR γ w c v/\∀l,(execOp (fr f N).eval ⟨dst,.fieldAddr T x i,ty,pos,aft,gd⟩).run P l=.ok (.value v) l:=by
 simp only[tK,ai]at K;obtain⟨S,h⟩:=K;have d:=ct Y S;unfold NT at h
 split at h
 ·rename_i fs A
  split at h
  ·rename_i fd H;simp only[ai,beq_iff_eq]at h;obtain⟨U,B⟩:=h
   split at B
   ·rename_i n V;simp only[nR]at B;obtain⟨m,rfl⟩:∃m,n=m+1:=⟨n - 1,by omega⟩
    have fin:∀b p,(fr f N).eval x=.pointer (Z ⟨b,p,O⟩)->∀l,(execOp (fr f N).eval ⟨dst,.fieldAddr T x i,ty,pos,aft,gd⟩).run P l=.ok (.value (.pointer (Z ⟨b,p+o,O⟩))) l:=
     λb p D l=>Ri A H (λw=>run_sizeOf V w) U D
    simp only[jj]at e
    split at e
    ·rename_i b p t;rw[t]at d;simp only[CR]at d;simp only[aa]at e;subst e;exact⟨_,by simp only[CR],fin _ _ d⟩
    ·rename_i cs t;rw[t]at d;simp only[CR]at d;simp only[aa]at e;subst e;obtain⟨b,p,L,F,D,R4,Q,W,hh⟩:=d;obtain⟨G,h4,h5⟩:=fE.drop cs o R4;refine⟨_,?_,fin _ _ D⟩;simp only[CR];refine⟨b,p+o,L.drop o,G,rfl,h4,Q.sub h5,?_,?_⟩
     ·intro j a A;rw[fK]at A;rw[cO];exact W _ a A
     ·intro j X;rw[dK]at X;rw[cO];exact hh _ (by omega)
    ·rename_i r k R p t;rw[t]at d;simp only[CR]at d;simp only[aa]at e;subst e;obtain⟨g,q,n,cc,h1,h2⟩:=d;refine⟨_,?_,fin _ _ h2⟩;simp only[CR];exact⟨g,q,n,cc,h1,by rw[cO (q+R * k)]⟩
    ·cases e
   ·cases B
  ·cases h
 ·cases h
theorem aky(L:Inv γ h0 io w0 s f w){T:TypeId}{x ix:Operand}{y j:KX}{k:Nat}{c:C}(Y:tK P N (.indexAddr T x ix) (.ia k y j)=I)(d:jj s (.ia k y j)=Z c) :
  ∃v,CR γ w c v/\∀t,(execOp (fr f N).eval ⟨dst,.indexAddr T x ix,ty,pos,aft,gd⟩).run P t=.ok (.value v) t:=by
 simp only[tK,ai]at Y;obtain⟨⟨hx,hj⟩,h⟩:=Y;have g:=ct L hx;have B:=ct L hj;unfold sliceB at h
 split at h
 ·rename_i a W;simp only[beq_iff_eq]at h;simp only[jj]at d
  split at d
  ·rename_i p fl es n q K;rw[q]at g;rw[K]at B;obtain⟨D,_⟩:=iM B
   split at d
   ·rename_i Q;obtain⟨h1,rfl⟩:=Q;simp only[eh,aj]at d;obtain⟨e,S,rfl⟩:=d;simp only[CR,Rp]at g;obtain⟨F,⟨A,m,cc,q1,q2,q3,q4,q5,q6,H,l⟩,V⟩:=g;have ed:=(bh.1 S).1;rcases l with ⟨l,_⟩|⟨_,b,o,xs,G,rfl,rfl,a2,a3⟩
    ·omega
    ·refine⟨.pointer (Z ⟨b,o+n.toNat * p,O⟩),?_,λt=>tU W (λw=>run_sizeOf h w) q1 D (by omega) (by omega)⟩;obtain⟨G',R4,R⟩:=a2.at_ H S;simp only[CR];refine⟨b,_,_,G',rfl,R4,V.sub (λbe q=>by simp[R be q]),a3.sub _ _,?_⟩;intro i qF;have AA:=H e (dS S);have hs:=V (b,o+m * p) (by simp);simp only at hs
     have:n.toNat * p+p<=m * p:=by
      rw[<- j5];exact fM _ (by omega)
     omega
   ·cases d
  ·rename_i r n q K;rw[q]at g;rw[K]at B;obtain⟨D,_⟩:=iM B
   split at d
   ·rename_i row hl
    split at d
    ·rename_i Q;obtain⟨h1,h2,rfl⟩:=Q;simp only[aa]at d;subst d;simp only[CR]at g;obtain⟨g,_⟩:=g;obtain⟨F,hR,_,sS⟩:=L.rw r row hl;obtain⟨A,n',c',q1,q2,q3,q4,q5,q6,H,l⟩:=hR;rcases l with ⟨rfl,l,_⟩|⟨X,U,xs,G,rfl,a2,a3,a4,a5,a6,a7,a8,a9,tZ⟩
     ·omega
     ·refine⟨.pointer (Z ⟨X,U+n.toNat * row.k,O⟩),?_,λt=>tU W (λw=>run_sizeOf h w) (g.trans q1) D (by omega) (by omega)⟩;simp only[CR];exact⟨X,U,n',c',q1,by simp⟩
    ·cases d
   ·cases d
  ·cases d
 ·cases h
theorem Yc{d:Operand->Value}{x y:Operand}{b o n:Nat}{i:Nat}{a:Int}{T c:TypeId}{k:Nat}(l:P.underlying T=Z (.array n c))(m:∀w,(mP c).run P w=.ok k w)(g:d x=.pointer (Z ⟨b,o,O⟩))(e:d y=.int .i64 a)(j:a=(i:Int))(h:i < n) :
  (execOp d ⟨dst,.indexAddr T x y,ty,pos,aft,gd⟩).run P w=.ok (.value (.pointer (Z ⟨b,o+i * k,O⟩))) w:=by
 subst j;simp[execOp,Instr.indexAt,g,e,asIntOf,Instr.sureAddr,run_underlying l,m,pZ,h]
theorem ahx(i:Inv γ h0 io w0 s f w){T:TypeId}{x ix:Operand}{y j:KX}{n k:Nat}{c:C}(l:tK P N (.indexAddr T x ix) (.ixa n k y j)=I)(d:jj s (.ixa n k y j)=Z c) :
  ∃v,CR γ w c v/\∀g,(execOp (fr f N).eval ⟨dst,.indexAddr T x ix,ty,pos,aft,gd⟩).run P g=.ok (.value v) g:=by
 simp only[tK,ai]at l;obtain⟨⟨A,F⟩,e⟩:=l;have h:=ct i A;have p:=ct i F;unfold afc at e
 split at e
 ·rename_i m a B;simp only[ai,beq_iff_eq]at e;obtain⟨rfl,t⟩:=e;simp only[jj]at d
  split at d
  ·rename_i b o q H D;rw[H]at h;rw[D]at p;obtain⟨r,_⟩:=iM p;simp only[CR]at h
   split at d
   ·rename_i G;simp only[aa]at d;subst d;exact⟨_,by simp only[CR],λg=>Yc B (λw=>run_sizeOf t w) h r (by omega) G.2⟩
   ·cases d
  ·cases d
 ·cases e
theorem ahy(g:Inv γ h0 io w0 s f w){T:TypeId}{x ix:Operand}{y j:KX}{c:C}(h:tK P N (.index T x ix) (.Xp y j)=I)(a:jj s (.Xp y j)=Z c) :
  ∃v,CR γ w c v/\∀b,(execOp (fr f N).eval ⟨dst,.index T x ix,ty,pos,aft,gd⟩).run P b=.ok (.value v) b:=by
 simp only[tK,ai]at h;obtain⟨⟨m,q⟩,d⟩:=h;have e:=ct g m;have i:=ct g q;unfold isStr at d
 split at d
 ·rename_i o;simp only[jj]at a
  split at a
  ·rename_i t n A p;rw[A]at e;rw[p]at i;obtain⟨k,_⟩:=iM i;obtain⟨l,_⟩:=Db e
   split at a
   ·rename_i r;simp only[aa]at a;subst a;refine⟨_,iP ?_,λb=>Ye o l k (by omega) r.2⟩;have:=sU t n.toNat;simp[IntKind.wrap,IntKind.bits,IntKind.signed];omega
   ·cases a
  ·cases a
 ·cases d
theorem AE{n:Int}(h:IntKind.i64.wrap n=n):-9223372036854775808<=n/\n<=9223372036854775807:=by
 simp[IntKind.wrap,IntKind.bits,IntKind.signed]at h
 split at h<;>omega
theorem cD{n:Int}(h:-9223372036854775808<=n/\n<=9223372036854775807):IntKind.i64.wrap n=n:=IntWalk.i64_in _ h
theorem wrap_wrap(k:IntKind)(n:Int):k.wrap (k.wrap n)=k.wrap n:=by
 cases k<;>simp only[IntKind.wrap,IntKind.bits,IntKind.signed]<;>(repeat' split)<;>simp_all<;>omega
theorem ahv(L:Inv γ h0 io w0 s f w){op:BinOp}{T S:TypeId}{x K:Operand}{y H:KX}{c:C}(Q:tK P N (.binOp op T x K S) (.bin op y H)=I)(j:jj s (.bin op y H)=Z c) :
  ∃v,CR γ w c v/\∀g,(execOp (fr f N).eval ⟨dst,.binOp op T x K S,ty,pos,aft,gd⟩).run P g=.ok (.value v) g:=by
 simp only[tK,ai]at Q;obtain⟨⟨_,U⟩,W⟩:=Q;have r:=ct L U;have t:=ct L W;simp only[jj]at j;unfold Rx at j
 split at j
 ·rename_i k a X b F B;rw[F]at r;rw[B]at t;obtain⟨i,m⟩:=iM r;obtain⟨h,p⟩:=iM t
  split at j
  ·rename_i V;subst V;simp only[aj]at j;obtain⟨d,hd,rfl⟩:=j;unfold Ut at hd
   split at hd
   all_goals (try (simp only[aa]at hd;subst hd))
   ·exact⟨_,iP (wrap_wrap _ _),λg=>by simp[execOp,i,h,binOp,Op.intArith,eqGuard]⟩
   ·exact⟨_,iP (wrap_wrap _ _),λg=>by simp[execOp,i,h,binOp,Op.intArith,eqGuard]⟩
   ·exact⟨_,iP (wrap_wrap _ _),λg=>by simp[execOp,i,h,binOp,Op.intArith,eqGuard]⟩
   ·exact⟨_,jq,λg=>MW i h rfl⟩
   ·exact⟨_,jq,λg=>ai6 i h rfl⟩
   ·exact⟨_,jq,λg=>ai5 i h rfl⟩
   ·exact⟨_,jq,λg=>ai4 i h rfl⟩
   ·exact⟨_,jq,λg=>ai3 i h rfl⟩
   ·exact⟨_,jq,λg=>ai7 i h (by simp)⟩
   ·split at hd
    ·rename_i l;obtain⟨rfl,q,G⟩:=l;simp only[aa]at hd;subst hd;have R:=AE m;have A:0<=a / b/\a / b<=a:=⟨Int.ediv_nonneg q (by omega),Int.ediv_le_self _ q⟩
     have o:¬b=0:=by omega
     have e:a.tdiv b=a / b:=Int.tdiv_eq_ediv_of_nonneg q;have n:IntKind.i64.wrap (a / b)=a / b:=cD (by omega);exact⟨_,iP n,λg=>by simp[execOp,i,h,binOp,Op.intDiv,eqGuard,o,e,n]⟩
    ·split at hd
     ·rename_i l;obtain⟨rfl,q,G⟩:=l;simp only[aa]at hd;subst hd;have R:=AE m;have A:0<=-a / b/\-a / b<=-a:=⟨Int.ediv_nonneg (by omega) (by omega),Int.ediv_le_self _ (by omega)⟩
      have o:¬b=0:=by omega
      have e:a.tdiv b=-(-a / b):=by
       have:=Int.neg_tdiv (-a) b;rw[tV]at this;rw[this,Int.tdiv_eq_ediv_of_nonneg (by omega)]
      have n:IntKind.i64.wrap (-(-a / b))=-(-a / b):=cD (by omega);exact⟨_,iP n,λg=>by simp[execOp,i,h,binOp,Op.intDiv,eqGuard,o,e,n]⟩
     ·cases hd
   ·split at hd
    ·rename_i l;obtain⟨rfl,q,G⟩:=l;simp only[aa]at hd;subst hd;have R:=AE m;have A:0<=a % b/\a % b < b:=⟨Int.emod_nonneg _ (by omega),Int.emod_lt_of_pos _ (by omega)⟩
     have D:=AE p;have o:¬b=0:=by omega
     have e:a.tmod b=a % b:=Int.tmod_eq_emod_of_nonneg q;have n:IntKind.i64.wrap (a % b)=a % b:=cD (by omega);exact⟨_,iP n,λg=>by simp[execOp,i,h,binOp,Op.intDiv,eqGuard,o,e]⟩
    ·split at hd
     ·rename_i l;obtain⟨rfl,q,G⟩:=l;simp only[aa]at hd;subst hd;have A:0<=-a % b/\-a % b < b:=⟨Int.emod_nonneg _ (by omega),Int.emod_lt_of_pos _ (by omega)⟩
      have D:=AE p;have o:¬b=0:=by omega
      have e:a.tmod b=-(-a % b):=by
       have:=Int.neg_tmod (-a) b;rw[tV]at this;rw[this,Int.tmod_eq_emod_of_nonneg (by omega)]
      have n:IntKind.i64.wrap (-(-a % b))=-(-a % b):=cD (by omega);exact⟨_,iP n,λg=>by simp[execOp,i,h,binOp,Op.intDiv,eqGuard,o,e]⟩
     ·cases hd
   ·cases hd
  ·cases j
 ·rename_i a b F B;rw[F]at r;rw[B]at t;obtain⟨i,m⟩:=Db r;obtain⟨h,p⟩:=Db t;simp only[aj]at j;obtain⟨d,hd,rfl⟩:=j;unfold Uu at hd
  split at hd
  ·split at hd
   ·rename_i l;simp only[aa]at hd;subst hd;have o:¬(((a.size+b.size:Nat):Int) > IntKind.i64.max):=by simp[IntKind.max,IntKind.signed,IntKind.bits];simp[maxLen]at l;omega
    refine⟨_,Bg (by simpa using l),λg=>?_⟩;simp only[execOp,i,h,binOp,Op.stringOp,eqGuard,if_neg o];simp
   ·cases hd
  ·simp only[aa]at hd;subst hd;exact⟨_,jq,λg=>aeL i h rfl⟩
  ·simp only[aa]at hd;subst hd;exact⟨_,jq,λg=>aeN i h (by simp)⟩
  ·simp only[aa]at hd;subst hd;exact⟨_,jq,λg=>by simp[execOp,i,h,binOp,Op.stringOp,eqGuard,kq]⟩
  ·simp only[aa]at hd;subst hd;exact⟨_,jq,λg=>by simp[execOp,i,h,binOp,Op.stringOp,eqGuard,kq,oD]⟩
  ·simp only[aa]at hd;subst hd;exact⟨_,jq,λg=>by simp[execOp,i,h,binOp,Op.stringOp,eqGuard,kq,oD]⟩
  ·simp only[aa]at hd;subst hd;exact⟨_,jq,λg=>by simp[execOp,i,h,binOp,Op.stringOp,eqGuard,kq]⟩
  ·cases hd
 ·cases j
theorem ahu(n:Inv γ h0 io w0 s f w){op:BinOp}{T q:TypeId}{x j:Operand}{y i:KX}{c:C}(p:tK P N (.binOp op T x j q) (.TI op y i)=I)(e:jj s (.TI op y i)=Z c) :
  ∃v,CR γ w c v/\∀g,(execOp (fr f N).eval ⟨dst,.binOp op T x j q,ty,pos,aft,gd⟩).run P g=.ok (.value v) g:=by
 simp only[tK,ai]at p;obtain⟨⟨⟨_,t⟩,B⟩,h⟩:=p;have m:=ct n t;have r:=ct n B;unfold isBool at h
 split at h
 ·rename_i o;simp only[jj]at e
  split at e
  ·rename_i a b D A;rw[D]at m;rw[A]at r;have l:=qR m;have k:=qR r;simp only[aj]at e;obtain⟨d,hd,rfl⟩:=e;unfold Us at hd
   split at hd
   ·simp only[aa]at hd;subst hd;exact⟨_,jq,λg=>aeJ o l k rfl⟩
   ·simp only[aa]at hd;subst hd;exact⟨_,jq,λg=>aeK o l k (by simp)⟩
   ·cases hd
  ·cases e
 ·cases h
theorem GM{w:World}:∀(es:M (M D)) {d:M Value} {G:Fp} {b:M Int},fy w es d G->bytesOf es=Z b->d=b.map (Value.int .u8)/\b.length=es.length
 |[],d,G,b,h,a=>by
  simp only[fy]at h;simp only[bytesOf,aa]at a;subst a;simp[h.1]
 |e::es,d,G,b,h,a=>by
  simp only[fy]at h;obtain⟨v1,v2,x,t,rfl,rfl,g,l⟩:=h;unfold bytesOf at a
  split at a
  ·rename_i m;cases m
  ·rename_i n p c;simp only[bY]at c;obtain⟨rfl,rfl⟩:=c;simp only[aj]at a;obtain⟨o,k,rfl⟩:=a;obtain⟨j,i⟩:=GM es l k;simp only[fE,Rp]at g;obtain⟨v,q,r,G2,rfl,_,⟨rfl,_⟩,rfl,_⟩:=g;simp[j,i]
  ·cases a
theorem ahw(L:Inv γ h0 io w0 s f w){T q:TypeId}{x:Operand}{y:KX}{c:C}(R:tK P N (.convert T q x) (.Nu y)=I)(j:jj s (.Nu y)=Z c) :
  ∃v,CR γ w c v/\∀k,qM γ s w k->(execOp (fr f N).eval ⟨dst,.convert T q x,ty,pos,aft,gd⟩).run P k=.ok (.value v) k:=by
 simp only[tK,ai]at R;obtain⟨⟨hx,b⟩,d⟩:=R;have p:=ct L hx;simp only[jj]at j
 split at j
 ·rename_i r hb;rw[hb]at p;simp only[CR]at p
  split at j
  ·rename_i row K
   split at j
   ·rename_i hc;simp only[aj]at j;obtain⟨m,e,rfl⟩:=j;obtain⟨F,hR,_,X⟩:=L.rw r row K;obtain⟨A,n,Q,q1,q2,q3,q4,q5,q6,q7,q8⟩:=hR;rcases q8 with ⟨a1,P6,_⟩|⟨g,o,U,G,a1,a2,a3,a4,a5,a6,a7,a8,a9,W⟩
    ·have V:row.es=[]:=cP.1 (by omega);rw[V]at e;simp only[bytesOf,aa]at e;subst e;subst a1;refine⟨.string ByteArray.empty,Bg (nU _),λk H=>?_⟩;unfold isStr at b
     split at b
     ·rename_i l;unfold acM at d
      split at d
      ·rename_i a B
       split at d
       ·rename_i D;have h:=run_convert_bytes_nil (P:=P) k T a B D n Q q l;have t:=p.1.trans q1;simp only[execOp,t,h,Sem.run_bind,Result.andThen_ok];rfl
       ·cases d
      ·cases d
     ·cases b
    ·have hg:g∈F:=by
      cases hd:row.deep with
      |true=>rw[(a9 hd).1];simp
      |false=>rw[(W hd).1];simp
     obtain⟨k1,k2⟩:=GM _ a4 e;subst a1;refine⟨_,Bg ?_,λk H=>?_⟩
     ·show (strOfNums m).size<=maxLen;rw[strOfNums_size];omega
     ·have Y:iH k g o U:=a5.dL (H.rw r row K g (X g hg));unfold isStr at b
      split at b
      ·rename_i l;unfold acM at d
       split at d
       ·rename_i a B
        split at d
        ·rename_i D;have h:=run_convert_bytes_arg (P:=P) k T a B D g o n Q m (by omega) (λi qF=>by
          have S:i < m.length:=by omega
          have:=Y i (.int .u8 m[i]) (by rw[k1];simp[S]);rw[this];simp[S]) q l
         have t:=p.1.trans q1;simp only[execOp,t,h,Sem.run_bind,Result.andThen_ok];rfl
        ·cases d
       ·cases d
      ·cases b
   ·cases j
  ·cases j
 ·cases j
theorem ahA(Y:Inv γ h0 io w0 s f w){T:TypeId}{x ix:Operand}{y j:KX}{c:C}(cR:tK P N (.slice T x O (Z ix) O) (.slc y j)=I)(l:jj s (.slc y j)=Z c) :
  ∃v,CR γ w c v/\∀q,(execOp (fr f N).eval ⟨dst,.slice T x O (Z ix) O,ty,pos,aft,gd⟩).run P q=.ok (.value v) q:=by
 simp only[tK,ai]at cR;obtain⟨⟨⟨hx,hj⟩,_⟩,m⟩:=cR;have B:=ct Y hx;have CD:=ct Y hj;obtain⟨d,m⟩:=cy.1 m;unfold JW at m
 split at m
 ·rename_i i p;simp only[jj]at l
  split at l
  ·rename_i k fl es a hb hn;rw[hb]at B;rw[hn]at CD;obtain⟨uy,_⟩:=iM CD
   split at l
   ·rename_i hc;simp only[aa]at l;subst l;simp only[CR,Rp]at B;obtain⟨F,⟨A,n,K,q1,q2,q3,S,R,Q,t,L⟩,W⟩:=B;have H:(es.take a.toNat).length=a.toNat:=by rw[bj];omega
    refine⟨.slice A a.toNat K,?_,λq=>Pj p (λw=>run_sizeOf m w) q1 uy (by omega) (by omega)⟩;by_cases h0:a.toNat=0
    ·simp only[CR,Rp];exact⟨[],⟨A,a.toNat,K,rfl,H.symm,by omega,S,λD e l=>R D e (cn l),Q,λe l=>t e (cn l),.inl ⟨h0,rfl⟩⟩,λ_ h=>by simp at h⟩
    ·rcases L with L|⟨hp,b,o,xs,G,p1,V,U,p4⟩
     ·omega
     ·rw[<- bD a.toNat es]at U;obtain⟨v1,v2,F1,F2,rfl,rfl,X,k2⟩:=fy.gk _ U;have DL:=fy.length _ X (λe l=>t e (cn l));rw[H]at DL;simp only[CR,Rp];refine⟨(b,o+a.toNat * k)::F1,⟨A,a.toNat,K,rfl,H.symm,by omega,S,λD e l=>R D e (cn l),Q,λe l=>t e (cn l),.inr ⟨by omega,b,o,v1,F1,p1,rfl,X,?_⟩⟩,?_⟩
      ·intro j g p;exact p4 j g (by rw[dd (bh.1 p).1];exact p)
      ·intro be r;rcases aI.1 r with rfl|r
       ·have:=W (b,o+n * k) (by rw[V];simp);refine aH ?_ this;have:a.toNat * k<=n * k:=fM k (by omega);show o+a.toNat * k<=o+n * k;omega
       ·exact W be (by rw[V];simp[r])
   ·cases l
  ·cases l
 ·cases m
theorem ahB(j:Inv γ h0 io w0 s f w){T:TypeId}{x:Operand}{m k:u Operand}{y:KX}{a b:u KX}{c:C}(p:tK P N (.slice T x m k O) (.Ti y a b)=I)(e:jj s (.Ti y a b)=Z c) :
  ∃v,CR γ w c v/\∀g,(execOp (fr f N).eval ⟨dst,.slice T x m k O,ty,pos,aft,gd⟩).run P g=.ok (.value v) g:=by
 simp only[tK,ai]at p;obtain⟨⟨⟨A,D⟩,F⟩,h⟩:=p;have n:=ct j A;unfold isStr at h
 split at h
 ·rename_i B;simp only[jj]at e
  split at e
  ·rename_i t G;rw[G]at n;obtain⟨q,H⟩:=Db n
   split at e
   ·rename_i l d r i
    split at e
    ·rename_i o;simp only[aa]at e;subst e;refine⟨_,Bg ?_,λg=>Yf B q (oP j D r) (oP j F i) o.1 o.2⟩;rw[ByteArray.size_extract];omega
    ·cases e
   ·cases e
  ·cases e
 ·cases h
theorem ahz(Q:Inv γ h0 io w0 s f w){T:TypeId}{x:Operand}{lo B:u Operand}{y:KX}{a b:u KX}{k:Nat}{c:C}(cR:tK P N (.slice T x lo B O) (.zZ k y a b)=I)(i:jj s (.zZ k y a b)=Z c) :
  ∃v,CR γ w c v/\∀t,(execOp (fr f N).eval ⟨dst,.slice T x lo B O,ty,pos,aft,gd⟩).run P t=.ok (.value v) t:=by
 simp only[tK,ai]at cR;obtain⟨⟨⟨hx,M8⟩,R⟩,q⟩:=cR;have L:=ct Q hx;have q:=eq_of_beq q;unfold JW at q
 split at q
 ·rename_i g hu;simp only[jj]at i
  split at i
  ·rename_i m fl es hb;rw[hb]at L
   split at i
   ·rename_i l d qY K
    split at i
    ·rename_i hc;obtain⟨rfl,c1,c2⟩:=hc;simp only[aa]at i;subst i;simp only[CR,Rp]at L;obtain⟨F,⟨A,n,V,q1,q2,q3,q4,q5,q6,H,Y⟩,kZ⟩:=L;have p:((es.take d).drop l).length=d - l:=by simp;omega
     have r:∀e∈(es.take d).drop l,e∈es:=λe i=>cn (ff i);have U:Ni (fr f N).eval B n d:=by rw[q2];exact oP Q R K
     have mF:=λt=>FK (w:=t) (dst:=dst) (ty:=ty) (pos:=pos) (aft:=aft) (gd:=gd) hu (λw=>run_sizeOf q w) q1 (oP Q M8 qY) U c1 (by omega);refine⟨_,?_,mF⟩;by_cases h0:d - l=0
     ·simp only[CR,Rp];exact⟨[],⟨_,d - l,V - l,rfl,p.symm,by omega,by omega,λS e i=>q5 S e (r e i),q6,λe i=>H e (r e i),.inl ⟨h0,rfl⟩⟩,λ_ h=>by simp at h⟩
     ·rcases Y with Y|⟨hp,b,o,xs,G,p1,p2,p3,p4⟩
      ·omega
      ·have rH:¬V=l:=by omega
       rw[<- bD d es]at p3;obtain⟨v1,v2,F1,F2,rfl,rfl,m0,_⟩:=fy.gk _ p3;rw[<- bD l (es.take d)]at m0;obtain⟨X,W,G1,G2,rfl,rfl,m1,m2⟩:=fy.gk _ m0;have DL:=fy.length _ m1 (λe i=>H e (cn (cn i)));have VY:((es.take d).take l).length=l:=by simp;omega
       rw[VY]at DL;rw[if_neg rH,p1];simp only[CR,Rp];refine⟨(b,o+l * m+(d - l) * m)::G2,⟨Z ⟨b,o+l * m,O⟩,d - l,V - l,by simp[Addr.add],p.symm,by omega,by omega,λS e i=>q5 S e (r e i),q6,λe i=>H e (r e i),.inr ⟨by omega,b,o+l * m,W,G2,rfl,rfl,m2,?_⟩⟩,?_⟩
       ·intro j v hj;have e1:((X++W)++v2)[X.length+j]?=Z v:=by
         rw[bB,dw (by omega),uA,dd (bh.1 hj).1];exact hj
        have e2:=p4 _ _ e1;rw[DL,<- cO]at e2;exact e2
       ·intro be D;rcases aI.1 D with rfl|D
        ·have h9:=kZ (b,o+n * m) (by rw[p2];simp);refine aH ?_ h9;have h8:l * m+(d - l) * m=d * m:=by rw[<- ll];congr 1;omega
         have h7:d * m<=n * m:=fM m (by omega);show o+l * m+(d - l) * m<=o+n * m;omega
        ·exact kZ be (by rw[p2];simp[D])
    ·cases i
   ·cases i
  ·cases i
 ·cases q
theorem oq(G:Inv γ h0 io w0 s f w){op:Op}{pR:KO}{c:C}(B:tK P N op pR=I)(h:jj s pR=Z c) :
  ∃v,CR γ w c v/\∀l,(pR.N_=I->qM γ s w l)->(execOp (fr f N).eval ⟨dst,op,ty,pos,aft,gd⟩).run P l=.ok (.value v) l:=by
 have L:=B;unfold tK at B
 split at B
 ·simp only[jj,aa]at h;subst h;exact⟨_,ct G B,λl _=>il rfl⟩
 ·simp only[jj,aa]at h;subst h;exact⟨_,ct G B,λl _=>jJ rfl⟩
 ·simp only[ai]at B;obtain⟨⟨D,q⟩,S⟩:=B;simp only[jj]at h
  split at h
  ·rename_i b H;have j:=ct G D;rw[H]at j;have K:=qR j;simp only[aa]at h;subst h;cases b
   ·exact⟨_,ct G S,λl _=>MX K rfl⟩
   ·exact⟨_,ct G q,λl _=>MY K rfl⟩
  ·cases h
 ·obtain⟨v,D,q⟩:=aay (dst:=dst) (ty:=ty) (pos:=pos) (aft:=aft) (gd:=gd) G L h;exact⟨v,D,λl _=>q l⟩
 ·obtain⟨v,D,q⟩:=adn (dst:=dst) (ty:=ty) (pos:=pos) (aft:=aft) (gd:=gd) G L h;exact⟨v,D,λl hs=>q l (hs rfl)⟩
 ·obtain⟨v,D,q⟩:=akx (dst:=dst) (ty:=ty) (pos:=pos) (aft:=aft) (gd:=gd) G L h;exact⟨v,D,λl _=>q l⟩
 ·obtain⟨v,D,q⟩:=aky (dst:=dst) (ty:=ty) (pos:=pos) (aft:=aft) (gd:=gd) G L h;exact⟨v,D,λl _=>q l⟩
 ·obtain⟨v,D,q⟩:=ahC (dst:=dst) (ty:=ty) (pos:=pos) (aft:=aft) (gd:=gd) G L h;exact⟨v,D,λl _=>q l⟩
 ·obtain⟨v,D,q⟩:=ahx (dst:=dst) (ty:=ty) (pos:=pos) (aft:=aft) (gd:=gd) G L h;exact⟨v,D,λl _=>q l⟩
 ·obtain⟨v,D,q⟩:=ahy (dst:=dst) (ty:=ty) (pos:=pos) (aft:=aft) (gd:=gd) G L h;exact⟨v,D,λl _=>q l⟩
 ·simp only[ai]at B;have e:=of_decide_eq_true B.1.1;subst e;obtain⟨v,D,q⟩:=ahv (dst:=dst) (ty:=ty) (pos:=pos) (aft:=aft) (gd:=gd) G L h;exact⟨v,D,λl _=>q l⟩
 ·simp only[ai]at B;have e:=of_decide_eq_true B.1.1.1;subst e;obtain⟨v,D,q⟩:=ahu (dst:=dst) (ty:=ty) (pos:=pos) (aft:=aft) (gd:=gd) G L h;exact⟨v,D,λl _=>q l⟩
 ·simp only[jj]at h
  split at h
  ·rename_i b H;have j:=ct G B;rw[H]at j;have K:=qR j;simp only[aa]at h;subst h;exact⟨_,jq,λl _=>ab0 K⟩
  ·cases h
 ·simp only[jj]at h
  split at h
  ·rename_i k a H;have j:=ct G B;rw[H]at j;obtain⟨K,_⟩:=iM j;simp only[aa]at h;subst h;exact⟨_,iP (wrap_wrap _ _),λl _=>by simp[execOp,K,Op.unary,Op.intArith]⟩
  ·cases h
 ·simp only[ai,beq_iff_eq]at B;obtain⟨⟨D,q⟩,S⟩:=B;simp only[jj]at h
  split at h
  ·rename_i k a H;have j:=ct G D;rw[H]at j;obtain⟨K,_⟩:=iM j;simp only[aa]at h;subst h;refine⟨_,iP (wrap_wrap _ _),λl _=>?_⟩;unfold ZP at q S
   split at S
   ·rename_i k' fV;simp only[aa]at S;subst S
    split at q
    ·rename_i k2 hk2;simp[execOp,convert,K,run_underlying fV,run_underlying hk2,Conv.intToInt]
    ·cases q
   ·cases S
  ·cases h
 ·rename_i V y
  split at B
  ·rename_i x T R Q Y;simp only[ai]at B;obtain⟨D,q⟩:=B;obtain⟨UC,args,X⟩:=V;simp only at R Q Y
   subst R;have U:args=#[x]:=by rw[<- Q]
   have et:X=#[T]:=by rw[<- Y]
   subst U et;have j:=ct G D;unfold LL at q
   split at q
   ·rename_i d W;have wr:∀n:Nat,n<=maxLen->IntKind.i64.wrap (n:Int)=n:=λn hn=>cD (by simp[maxLen]at hn;omega);simp only[jj]at h
    split at h
    ·rename_i k fl es H;rw[H]at j;simp only[CR,Rp]at j;obtain⟨F,⟨A,m,cc,q1,q2,q3,q4,_⟩,kZ⟩:=j;simp only[aa]at h;subst h;subst q2;exact⟨_,iP (wr _ (by omega)),λl _=>Ia W q1⟩
    ·rename_i k fl H;rw[H]at j;simp only[CR]at j;simp only[aa]at h;subst h;exact⟨_,iP (wr 0 (by omega)),λl _=>Ia W j.1⟩
    ·rename_i r H;rw[H]at j;simp only[CR]at j
     split at h
     ·rename_i row hl;simp only[aa]at h;subst h;obtain⟨F,hR,_,sS⟩:=G.rw r row hl;obtain⟨A,n',c',q1,q2,q3,q4,_⟩:=hR;subst q2;exact⟨_,iP (wr _ (by omega)),λl _=>Ia W (j.1.trans q1)⟩
     ·cases h
    ·cases h
   ·cases q
  ·cases B
 ·rename_i V y
  split at B
  ·rename_i x T R Q Y;simp only[ai]at B;obtain⟨D,q⟩:=B;obtain⟨UC,args,X⟩:=V;simp only at R Q Y
   subst R;have U:args=#[x]:=by rw[<- Q]
   have et:X=#[T]:=by rw[<- Y]
   subst U et;have j:=ct G D;unfold isStr at q
   split at q
   ·rename_i W;simp only[jj]at h
    split at h
    ·rename_i t H;rw[H]at j;obtain⟨K,hl⟩:=Db j;simp only[aa]at h;subst h;exact⟨_,iP (cD (by simp[maxLen]at hl;omega)),λl _=>aeM W K⟩
    ·cases h
   ·cases q
  ·cases B
 ·rename_i V y y'
  split at B
  ·rename_i x x' R Q;simp only[ai]at B;obtain⟨UC,args,X⟩:=V;simp only at R Q
   subst R;have U:args=#[x,x']:=by rw[<- Q]
   subst U;have j:=ct G B.1;have CC:=ct G B.2;simp only[jj]at h
   split at h
   ·rename_i a b H lK;rw[H]at j;rw[lK]at CC;obtain⟨K,hw⟩:=iM j;obtain⟨TT,hw'⟩:=iM CC;simp only[aa]at h;subst h;exact⟨_,iP (by split<;>assumption),λl _=>by simp[execOp,resolve,invoke,builtin,Builtin.min_,Builtin.min2,K,TT]⟩
   ·cases h
  ·cases B
 ·rename_i V y y'
  split at B
  ·rename_i x x' R Q;simp only[ai]at B;obtain⟨UC,args,X⟩:=V;simp only at R Q
   subst R;have U:args=#[x,x']:=by rw[<- Q]
   subst U;have j:=ct G B.1;have CC:=ct G B.2;simp only[jj]at h
   split at h
   ·rename_i a b H lK;rw[H]at j;rw[lK]at CC;obtain⟨K,hw⟩:=iM j;obtain⟨TT,hw'⟩:=iM CC;simp only[aa]at h;subst h;exact⟨_,iP (by split<;>assumption),λl _=>by simp[execOp,resolve,invoke,builtin,Builtin.max_,Builtin.max2,K,TT]⟩
   ·cases h
  ·cases B
 ·simp only[ai,beq_iff_eq]at B;obtain⟨D,rfl⟩:=B;have j:=ct G D;simp only[jj]at h
  split at h
  ·rename_i cs H;rw[H]at j;simp only[CR]at j;obtain⟨vs,q,S⟩:=j;rw[eh]at h;obtain⟨v,K,hc⟩:=S.at_ h;exact⟨v,hc,λl _=>TA q (by simpa using K)⟩
  ·cases h
 ·obtain⟨v,D,q⟩:=ahA (dst:=dst) (ty:=ty) (pos:=pos) (aft:=aft) (gd:=gd) G L h;exact⟨v,D,λl _=>q l⟩
 ·obtain⟨v,D,q⟩:=ahB (dst:=dst) (ty:=ty) (pos:=pos) (aft:=aft) (gd:=gd) G L h;exact⟨v,D,λl _=>q l⟩
 ·obtain⟨v,D,q⟩:=ahz (dst:=dst) (ty:=ty) (pos:=pos) (aft:=aft) (gd:=gd) G L h;exact⟨v,D,λl _=>q l⟩
 ·have j:=ct G B;simp only[jj]at h
  split at h
  ·rename_i b o H;simp only[aa]at h;subst h;rw[H]at j;refine⟨_,j,λl _=>?_⟩;simp only[CR]at j;simp[execOp,j]
  ·rename_i cs H;simp only[aa]at h;subst h;rw[H]at j;refine⟨_,j,λl _=>?_⟩;simp only[CR]at j;obtain⟨b,o,vs,F,j,_⟩:=j;simp[execOp,j]
  ·rename_i r k i o H;simp only[aa]at h;subst h;rw[H]at j;refine⟨_,j,λl _=>?_⟩;simp only[CR]at j;obtain⟨g,p,n,c,_,j⟩:=j;simp[execOp,j]
  ·cases h
 ·obtain⟨v,D,q⟩:=ahw (dst:=dst) (ty:=ty) (pos:=pos) (aft:=aft) (gd:=gd) G L h;exact⟨v,D,λl hs=>q l (hs rfl)⟩
 ·cases B
end
end
section
open Go.RowKit
inductive FOk:Option Nat->Fm->Fm->Prop where
 |skip {f:Fm}:FOk none f f
 |put {d:Nat} {f:Fm} {v:Value}:FOk (some d) f (B3 f d v)
structure Tr (d:Option Nat) (X:List Nat) (γ:Gh) (w:World) (γ':Gh) (w':World) (f f':Fm):Prop where
 Pq:uC γ (λo=>∃i∈X,o=.box i\/o=.row i) w w'
 β:∀b,d≠some b->γ'.β b=γ.β b
 h:∀g,γ.h g<=γ'.h g
 fr:FOk d f f'
theorem uC.refl(b:Gh)(a:Own->Prop)(w:World):uC b a w w:=⟨rfl,rfl,rfl,az _,λ_ _ _=>rfl,λ_ _ _=>rfl,λ_ h=>h⟩
section
variable {γ:Gh} {h0:Nat->Nat} {io:M Nat} {w0:World} {s:St} {f:Fm} {w:World}
theorem kz(h:Inv γ h0 io w0 s f w){e:World}(b:Bv w.heap.size w e)(a:Own->Prop):uC γ a w e where
 os:=b.os
 tape:=b.tape
 output:=b.output
 size:=b.size
 block g c _:=b.block g c
 cell g j i:=by
  rcases dH g w.heap.size with d|d
  ·exact World.cell?_of_block (w:=w) (b.block g d)
  ·have:=h.fW g d;omega
 fX g c:=⟨bR c.1 b.size,λj=>by rw[World.frozen?_of_block (w:=w) (b.block g c.1)];exact c.2 j⟩
theorem Inv.Co(b:Inv γ h0 io w0 s f w){a:World}(c:Bv w.heap.size w a):Inv γ h0 io w0 s f a:=
 b.Pq (kz b c (λ_=>False)) (λh=>h) (λ_ h=>h.elim) (λ_ h=>h.elim)
theorem Inv.rX(a:Inv γ h0 io w0 s f w){g:Nat}(b:w.heap.size<=g):γ.ω g=.free:=by
 rcases jL (γ.ω g=.free) with h|h
 ·exact h
 ·have:=(a.own g h).1;omega
theorem Inv.Np(a:Inv γ h0 io w0 s f w){b g:Nat}{T:TypeId}{q:M Value}{D:M C}(hB:kJ w g T q)(G:γ.ω g=.free\/γ.ω g=.ej)(L:w0.heap.size<=g\/g∈io)(K:γ.h g=0)(N:fu γ w D q) :
  ∃i,Inv i h0 io w0 (s.lY b (C.kN b D)) f w/\i.β b=g/\(∀x,x≠b->i.β x=γ.β x)/\i.h=γ.h/\i.sl=γ.sl/\∀y,y≠g->i.ω y=γ.ω y:=by
 refine⟨{γ with β:=λx=>if x=b then g else γ.β x,ω:=λx=>if x=g then .box b else γ.ω x },?_,by simp,λx H=>by simp[H],rfl,rfl,λy j=>by simp[j]⟩;have mv:∀(c:C) {v:Value},CR γ w c v->CR {γ with β:=λx=>if x=b then g else γ.β x,ω:=λx=>if x=g then .box b else γ.ω x } w (C.kill b c) v:=λc v h=>
  by refine CR.move (γ:=γ) b ?_ ?_ ?_ ?_ c h<;>intros<;>first|exact az _|rfl|simp_all
 have l:∀(c:M C) {v:M Value},fu γ w c v->fu {γ with β:=λx=>if x=b then g else γ.β x,ω:=λx=>if x=g then .box b else γ.ω x } w (C.kN b c) v:=λc v h=>
  by refine fu.move (γ:=γ) b ?_ ?_ ?_ ?_ c h<;>intros<;>first|exact az _|rfl|simp_all
 exact {
  sl:=λd c k=>by
   simp[St.lY,St.gl,St.kill,xS]at k;obtain⟨o,n,rfl⟩:=k;exact mv o (a.sl d o n)
  bx:=λd c k=>by
   simp[St.lY,St.gl,St.kill,look,eN,xR]at k;by_cases hd:b=d
   ·subst hd;simp[if_true,aa]at k;subst k;exact⟨T,q,by simpa using hB,l D N,by simp⟩
   ·simp[if_neg hd]at k;obtain⟨o,n,rfl⟩:=k;obtain⟨Q,P,B,p,A⟩:=a.bx d o n;have t:γ.β d≠g:=λe=>by rcases G with h|h<;>rw[e,h]at A<;>cases A
    exact⟨Q,P,by simpa [mR hd] using B,l o p,by simp[mR hd,t,A]⟩
  rw:=λr x k=>by
   obtain⟨F,n,B,p⟩:=a.rw r x k;refine⟨F,n,B,λy j=>?_⟩;have t:y≠g:=λe=>by have:=p y j;rcases G with h|h<;>rw[e,h]at this<;>cases this
   simp[t,p y j]
  own:=λy j=>by
   by_cases m:y=g
   ·subst m;exact⟨hB.lt,L⟩
   ·simp[if_neg m]at j;exact a.own y j
  nS:=λy x j=>by
   by_cases m:y=g
   ·subst m;exact K
   ·simp[if_neg m]at j;exact a.nS y x j
  fW:=a.fW,os:=a.os,tape:=a.tape,output:=a.output,size:=a.size,frame:=a.frame,cell:=a.cell,mono:=a.mono,hold:=a.hold,fX:=a.fX }
theorem Inv.uG(a:Inv γ h0 io w0 s f w){r:Nat}{x:Row}{v:Value}{F:M Nat}(H:pz γ.h w x v F)(D:F.Nodup)(K:∀g∈F,(γ.ω g=.free\/γ.ω g=.ej\/γ.ω g=.row r)/\g < w.heap.size/\(w0.heap.size<=g\/g∈io)) :
  ∃b,Inv b h0 io w0 (s.newRow r x) f w/\b.sl r=v/\b.β=γ.β/\b.h=γ.h/\(∀g,g∉F->b.ω g=γ.ω g)/\∀q,q≠r->b.sl q=γ.sl q:=by
 refine⟨{γ with sl:=λq=>if q=r then v else γ.sl q,ω:=λy=>if y∈F then .row r else γ.ω y },?_,by simp,rfl,rfl,λg l=>by simp[l],λq G=>by simp[G]⟩;have mv:∀(c:C) {j:Value},CR γ w c j->CR {γ with sl:=λq=>if q=r then v else γ.sl q,ω:=λy=>if y∈F then .row r else γ.ω y } w (C.kill r c) j:=λc j h=>
  by refine CR.move (γ:=γ) r ?_ ?_ ?_ ?_ c h<;>intros<;>first|exact az _|rfl|simp_all
 have p:∀(c:M C) {j:M Value},fu γ w c j->fu {γ with sl:=λq=>if q=r then v else γ.sl q,ω:=λy=>if y∈F then .row r else γ.ω y } w (C.kN r c) j:=λc j h=>
  by refine fu.move (γ:=γ) r ?_ ?_ ?_ ?_ c h<;>intros<;>first|exact az _|rfl|simp_all
 exact {
  sl:=λd c i=>by
   simp[St.newRow,St.setRow,St.kill,xS]at i;obtain⟨n,m,rfl⟩:=i;exact mv n (a.sl d n m)
  bx:=λd c i=>by
   simp[St.newRow,St.setRow,St.kill,xR]at i;obtain⟨n,m,rfl⟩:=i;obtain⟨P,N,B,A,L⟩:=a.bx d n m;refine⟨P,N,B,p n A,?_⟩;have t:γ.β d∉F:=λe=>by
    grind
   simp[t,L]
  rw:=λq y i=>by
   simp[St.newRow,St.setRow,St.kill,look,eN]at i;by_cases hd:r=q
   ·subst hd;simp[if_true,aa]at i;subst i;exact⟨F,by simpa using H,D,λg l=>by simp[l]⟩
   ·simp[if_neg hd]at i;obtain⟨Q,m,B,A⟩:=a.rw q y i;refine⟨Q,by simpa [mR hd] using m,B,λg l=>?_⟩;have t:g∉F:=λe=>by
     grind
    simp[t,A g l]
  own:=λy k=>by
   by_cases o:y∈F
   ·exact (K y o).2
   ·simp[if_neg o]at k;exact a.own y k
  nS:=λy x k=>by
   by_cases o:y∈F
   ·simp_all
   ·simp[if_neg o]at k;exact a.nS y x k
  fW:=a.fW,os:=a.os,tape:=a.tape,output:=a.output,size:=a.size,frame:=a.frame,cell:=a.cell,mono:=a.mono,hold:=a.hold,fX:=a.fX }
theorem Inv.setRow(a:Inv γ h0 io w0 s f w){r:Nat}{x:Row}{F:M Nat}(A:pz γ.h w x (γ.sl r) F)(v:F.Nodup)(B:∀g∈F,(γ.ω g=.free\/γ.ω g=.ej\/γ.ω g=.row r)/\g < w.heap.size/\(w0.heap.size<=g\/g∈io)) :
  ∃b,Inv b h0 io w0 (s.setRow r x) f w/\b.sl=γ.sl/\b.β=γ.β/\b.h=γ.h/\∀g,b.ω g=γ.ω g\/b.ω g=.row r:=by
 refine⟨{γ with ω:=λy=>if y∈F then .row r else γ.ω y },?_,rfl,rfl,rfl,λg=>by dsimp only;split<;>simp⟩;have mv:∀(c:C) {j:Value},CR γ w c j->CR {γ with ω:=λy=>if y∈F then .row r else γ.ω y } w c j:=λc j h=>
  by refine CR.mono (γ:=γ) ?_ ?_ ?_ ?_ c h<;>intros<;>first|exact az _|rfl
 have m:∀(c:M C) {j:M Value},fu γ w c j->fu {γ with ω:=λy=>if y∈F then .row r else γ.ω y } w c j:=λc j h=>
  by refine fu.mono (γ:=γ) ?_ ?_ ?_ ?_ c h<;>intros<;>first|exact az _|rfl
 exact {
  sl:=λd c i=>mv c (a.sl d c i)
  bx:=λd c i=>by
   obtain⟨K,H,t,p,D⟩:=a.bx d c i;refine⟨K,H,t,m c p,?_⟩;have n:γ.β d∉F:=λe=>by
    grind
   simp[n,D]
  rw:=λq y i=>by
   simp[St.setRow,look,eN]at i;by_cases hd:r=q
   ·subst hd;simp[if_true,aa]at i;subst i;exact⟨F,A,v,λg o=>by simp[o]⟩
   ·simp[if_neg hd]at i;obtain⟨L,G,t,p⟩:=a.rw q y i;refine⟨L,G,t,λg o=>?_⟩;have n:g∉F:=λe=>by
     grind
    simp[n,p g o]
  own:=λy k=>by
   by_cases l:y∈F
   ·exact (B y l).2
   ·simp[if_neg l]at k;exact a.own y k
  nS:=λy x k=>by
   by_cases l:y∈F
   ·simp_all
   ·simp[if_neg l]at k;exact a.nS y x k
  fW:=a.fW,os:=a.os,tape:=a.tape,output:=a.output,size:=a.size,frame:=a.frame,cell:=a.cell,mono:=a.mono,hold:=a.hold,fX:=a.fX }
theorem Inv.gl(g:Inv γ h0 io w0 s f w){b:Nat}{T:TypeId}{e:M Value}{h:M C}(hB:kJ w (γ.β b) T e)(i:γ.ω (γ.β b)=.box b)(j:fu γ w h e):Inv γ h0 io w0 (s.gl b h) f w:=
 {g with
  bx:=λd c a=>by
   simp[St.gl,look,eN]at a;by_cases hd:b=d
   ·subst hd;simp[if_true,aa]at a;subst a;exact⟨T,e,hB,j,i⟩
   ·simp[if_neg hd]at a;exact g.bx d c a }
theorem Inv.cY(a:Inv γ h0 io w0 s f w)(r:Nat):Inv γ h0 io w0 (s.cY r) f w:=
 a.sub (λ_ _ h=>h) (λ_ _ h=>h) (λd c h=>by
  simp[St.cY,eN]at h
  simp_all)
theorem Inv.take(C:Inv γ h0 io w0 s f w){r:Nat}{x:Row}(hl:look s.rw r=Z x) :
  ∃m G,Inv m h0 io w0 (s.cY r) f w/\m.β=γ.β/\m.sl=γ.sl/\(∀g,γ.h g<=m.h g)/\Rp w (.list x.k x.fl x.es) (γ.sl r) G/\
   ((x.deep && !x.fz)=J->eI m.h G)/\((x.deep && !x.fz)=I->(G.map cr).Nodup/\∀p∈G,m.ω p.1=.ej/\m.h p.1=0/\oG w p.1)/\
   (∀p∈G,γ.ω p.1=.row r\/x.deep=J)/\(∀g,γ.ω g≠.row r->m.ω g=γ.ω g/\m.h g=γ.h g)/\∀g,m.ω g=γ.ω g\/m.ω g=.ej\/m.ω g=.free:=by
 obtain⟨F,hR,kl,B⟩:=C.rw r x hl;obtain⟨A,n,c,q1,q2,S,R,Q,P,N,q8⟩:=hR;have L:=C.cY r;have X:∀g,γ.ω g=.row r->(∀b cs,look (s.cY r).bx b=Z cs->γ.ω g≠.box b)/\∀q y,look (s.cY r).rw q=Z y->γ.ω g≠.row q:=by
  intro g K;refine⟨λb cs _=>by rw[K];simp,λq y V=>?_⟩;rw[K];simp only[St.cY,eN]at V
  split at V
  ·cases V
  ·rename_i ic;intro e;cases e;exact ic rfl
 rcases q8 with ⟨rfl,rfl,rfl⟩|⟨g,o,xs,G,rfl,a2,a3,a4,a5,a6,a7,a8,a9,tZ⟩
 ·refine⟨γ,[],L,rfl,rfl,λ_=>az _,?_,λ_ _ h=>by simp at h,λ_=>by simp,λ_ h=>by simp at h,λ_ _=>⟨rfl,rfl⟩,λ_=>.inl rfl⟩;simp only[Rp];exact⟨O,n,0,q1,q2,S,R,N,Q,P,.inl ⟨by omega,trivial⟩⟩
 ·by_cases hn:n=0
  ·refine⟨γ,[],L,rfl,rfl,λ_=>az _,?_,λ_ _ h=>by simp at h,λ_=>by simp,λ_ h=>by simp at h,λ_ _=>⟨rfl,rfl⟩,λ_=>.inl rfl⟩;simp only[Rp];exact⟨_,n,c,q1,q2,S,R,N,Q,P,.inl ⟨hn,trivial⟩⟩
  ·have Y:Rp w (.list x.k x.fl x.es) (γ.sl r) ((g,o+n * x.k)::G):=by
    simp only[Rp];exact⟨_,n,c,q1,q2,S,R,N,Q,P,.inr ⟨by omega,g,o,xs,G,rfl,rfl,a4,a5⟩⟩
   have H:γ.ω g=.row r:=by
    cases hd:x.deep with
    |true=>exact B g (by rw[(a9 hd).1];simp)
    |false=>exact B g (by rw[(tZ hd).1];simp)
   by_cases t:(x.deep && !x.fz)=I
   ·simp only[ai,ck]at t;obtain⟨W,hz⟩:=a9 t.1;have U:=L.settle (h':=γ.h) (ω':=λy=>if γ.ω y=.row r then .ej else γ.ω y) (λ_=>az _) (λg K=>absurd rfl K)
     (λy=>by
      by_cases i:γ.ω y=.row r
      ·exact .inr ⟨.inr (by simp[i]),by rw[i];simp,X y i⟩
      ·exact .inl (by simp[i]))
     (λy b i=>by
      by_cases v:γ.ω y=.row r
      ·simp[v]at i
      ·simp only[if_neg v]at i;exact C.nS y b i)
    refine⟨_,(g,o+n * x.k)::G,U,rfl,rfl,λ_=>az _,Y,λh=>by simp[t.1,t.2]at h,λ_=>⟨by rw[aZ,<- W];exact kl,λp j=>?_⟩,λp j=>.inl ?_,λy i=>by simp[i],λy=>by dsimp only;split<;>simp⟩
    ·rcases aI.1 j with rfl|j
     ·exact⟨by simp[H],a7 t.2,a3⟩
     ·have hm:γ.ω p.1=.row r:=B _ (by rw[W];simp;exact .inr ⟨p.2,j⟩);exact⟨by simp[hm],hz p j⟩
    ·rcases aI.1 j with rfl|j
     ·exact H
     ·exact B _ (by rw[W];simp;exact .inr ⟨p.2,j⟩)
   ·
    have D:∀p∈G,x.deep=I->γ.ω p.1=.row r:=λp j hd=>B _ (by rw[(a9 hd).1];simp;exact .inr ⟨p.2,j⟩);have fW:∃h':Nat->Nat,(∀y,γ.h y<=h' y)/\eI h' ((g,o+n * x.k)::G)/\∀y,γ.ω y≠.row r->h' y=γ.h y:=by
     refine⟨λy=>if γ.ω y=.row r then γ.h y+((((g,o+n * x.k)::G).map r9).foldl max 0) else γ.h y,λy=>by dsimp only;split<;>omega,?_,λy i=>by simp[i]⟩;have mx:∀(l:M Nat) (a b:Nat),(b=a\/b∈l)->b<=l.foldl max a:=by
      intro l
      induction l with
      |nil=>intro a b j;simp at j;simp[j]
      |cons d l ih=>
       intro a b j;simp only[wO];have h1:=ih (max a d) (max a d) (.inl rfl);rcases j with rfl|j
       ·omega
       ·rcases aI.1 j with rfl|j
        ·omega
        ·exact ih _ _ (.inr j)
     intro p j;have hle:=mx (((g,o+n * x.k)::G).map r9) 0 p.2 (.inr (cH j));by_cases i:γ.ω p.1=.row r
     ·simp only[i,if_true];omega
     ·simp only[if_neg i];rcases aI.1 j with rfl|j
      ·exact absurd H i
      ·cases hd:x.deep with
       |true=>exact absurd (D p j hd) i
       |false=>exact (tZ hd).2 p j
    obtain⟨h',m1,m2,T⟩:=fW;have U:=L.settle (h':=h') (ω':=λy=>if γ.ω y=.row r then .free else γ.ω y) m1
     (λy i=>by
      have hr:γ.ω y=.row r:=by
       rcases jL (γ.ω y=.row r) with h|h
       ·exact h
       ·exact absurd (T y h) i
      have ho:=C.own y (by rw[hr];simp);exact⟨ho.1,ho.2,X y hr⟩)
     (λy=>by
      by_cases i:γ.ω y=.row r
      ·exact .inr ⟨.inl (by simp[i]),by rw[i];simp,X y i⟩
      ·exact .inl (by simp[i]))
     (λy b i=>by
      by_cases v:γ.ω y=.row r
      ·simp[v]at i
      ·simp only[if_neg v]at i;rw[T y v];exact C.nS y b i)
    refine⟨_,_,U,rfl,rfl,m1,Y,λ_=>m2,λh=>absurd h t,λp j=>?_,λy i=>by simp[i,T y i],λy=>by dsimp only;split<;>simp⟩;cases hd:x.deep with
    |false=>exact .inr rfl
    |true=>
     rcases aI.1 j with rfl|j
     ·exact .inl H
     ·exact .inl (D p j hd)
end
theorem EV{v:Value}(h:one v=I):v.oneCell'=I:=by
 cases v<;>simp_all[one,Value.oneCell']
theorem Bv.next'{a w b:World}(h:Bv a.heap.size a w)(c:Bv w.heap.size w b):Bv a.heap.size a b:=KG h c h.size
section
variable {P:Program} {w:World}
theorem JS{t ty e:TypeId}{i:TypeInfo}{a:Value}{k by_:Nat}(r:P.underlying t=Z (.slice e))(x:P.info? e=Z i)(hz:i.zero=Z a)(W:i.size=k)(V:i.bytes=by_)(Kq:a.cells.size=k)(hk:0 < k)
  {v:Value} {n:Nat} {xs:M Value} (R:xs.length=n * k) (hv:(v=.slice O 0 0/\n=0)\/∃g d T f,v=.slice (Z ⟨g,0,O⟩) n d/\kJ w g T f/\n<=d/\d<=maxLen/\f.length=d * k/\f.take (n * k)=xs)
  {u:Value} {m:Nat} {news:M Value} (F:news.length=m * k) (S:(m=0/\∃A c,u=.slice A 0 c)\/∃b o c,u=.slice (Z ⟨b,o,O⟩) m c/\iH w b o news) (h1:∀y∈news,one y=I) (G:n+m<=maxLen) (X:(n+m) * by_<=room) :
  ∃H C,(Builtin.append_ #[t,t] ty #[v,u]).run P w=.ok H C/\
   ((m=0/\H=v/\C=w)\/
    (∃g d T f,v=.slice (Z ⟨g,0,O⟩) n d/\kJ w g T f/\H=.slice (Z ⟨g,0,O⟩) (n+m) d/\n+m<=d/\d<=maxLen/\f.length=d * k/\f.take (n * k)=xs/\C=gF w g (.cells (cL f (n * k) news).toArray T (0,0)))\/
    (∃d B,H=.slice (Z ⟨w.heap.size,0,O⟩) (n+m) d/\n+m<=d/\d<=maxLen/\C.heap.size=w.heap.size+1/\Bv w.heap.size w C/\kJ C w.heap.size e B/\B.length=d * k/\B.take ((n+m) * k)=xs++news)):=by
 subst W;subst V;have aj4:n+m<=9223372036854775807:=by simp only[maxLen]at G;omega
 have nY:(n+m) * i.bytes<=140737488355328:=X;have q:(xs++news).length=(n+m) * i.size:=by rw[a_,R,F,ll]
 by_cases hm:m=0
 ·subst hm;have hn:news=[]:=cq (by simpa using F);subst hn;refine⟨v,w,?_,.inl ⟨rfl,rfl,rfl⟩⟩;rcases hv with ⟨rfl,rfl⟩|⟨g,d,T,f,rfl,hB,CB,K,N,TS⟩
  ·rcases S with ⟨_,A,c,rfl⟩|⟨b,o,c,rfl,_⟩
   ·cases A<;>simp[Builtin.append_,run_underlying r,sizeOf,typeInfo,x,Builtin.lenOf,Builtin.firstCells,loadCells,loadCellsFrom]
   ·simp[Builtin.append_,run_underlying r,sizeOf,typeInfo,x,Builtin.lenOf,Builtin.firstCells,loadCells,loadCellsFrom]
  ·rcases S with ⟨_,A,c,rfl⟩|⟨b,o,c,rfl,_⟩
   ·cases A<;>simp[Builtin.append_,run_underlying r,sizeOf,typeInfo,x,Builtin.lenOf,Builtin.firstCells,loadCells,loadCellsFrom,CB,storeCells]
   ·simp[Builtin.append_,run_underlying r,sizeOf,typeInfo,x,Builtin.lenOf,Builtin.firstCells,loadCells,loadCellsFrom,CB,storeCells]
 ·rcases S with ⟨h,_⟩|⟨b,o,c,rfl,iy⟩
  ·omega
  ·have L:∀j y,news[j]?=Z y->w.cell? ((⟨b,o,O⟩:Addr).add j)=Z y:=by
    intro j y D;rw[pZ];exact iy j y D
   have p:∀(l:Nat),l < n+m->
     (∃d B,(Value.slice (Z ⟨w.heap.size,0,O⟩) (n+m) (grownCap w (n+m) l e))=.slice (Z ⟨w.heap.size,0,O⟩) (n+m) d/\n+m<=d/\d<=maxLen/\(w.drew.alloc (.cells (xs.toArray++news.toArray++Builtin.zeroCells a.cells (grownCap w (n+m) l e - (n+m))) e)).heap.size=w.heap.size+1/\
      Bv w.heap.size w (w.drew.alloc (.cells (xs.toArray++news.toArray++Builtin.zeroCells a.cells (grownCap w (n+m) l e - (n+m))) e))/\kJ (w.drew.alloc (.cells (xs.toArray++news.toArray++Builtin.zeroCells a.cells (grownCap w (n+m) l e - (n+m))) e)) w.heap.size e B/\B.length=d * i.size/\B.take ((n+m) * i.size)=xs++news):=by
    intro l ho;have wT:=grownCap_ge w (n+m) l e;have K:grownCap w (n+m) l e<=maxLen:=grownCap_le_maxLen w (n+m) l e G;refine⟨_,(xs++news)++(Builtin.zeroCells a.cells (grownCap w (n+m) l e - (n+m))).toList,rfl,wT,K,by rw[size_alloc];rfl,?_,?_,?_,?_⟩
    ·exact (KH w).drew.next' (vX w.drew _ _)
    ·have e1:xs.toArray++news.toArray++Builtin.zeroCells a.cells (grownCap w (n+m) l e - (n+m))=((xs++news)++(Builtin.zeroCells a.cells (grownCap w (n+m) l e - (n+m))).toList).toArray:=by
      apply Array.ext'
      simp
     rw[e1];exact kJ.new w.drew e _
    ·rw[a_,q,eU,size_zeroCells,Kq,<- ll]
     congr 1
     omega
    ·rw[<- q];exact oA
   rcases hv with ⟨rfl,rfl⟩|⟨g,d,T,f,rfl,hB,CB,K,N,TS⟩
   ·have Q:xs=[]:=cq (by simpa using R);subst Q;have U:=run_append_nil (P:=P) w t ty e i a r x hz ⟨b,o,O⟩ m c news F L (by omega) (by omega) (by have hb:=nY;simp only[bu]at hb;omega);have hg:=p 0 (by omega);simp only[bu,av,Array.empty_append]at hg ⊢;exact⟨_,_,U,.inr (.inr hg)⟩
   ·by_cases Y:n+m<=d
    ·have AB:n * i.size+news.length<=f.length:=by rw[F,N,<- ll];exact fM _ Y
     have hf:=run_firstCells_some (P:=P) w i.size m ⟨b,o,O⟩ m c news F L;have sv:=nN (P:=P) (o:=n * i.size) news 0 w f hB (by simpa using AB) h1;simp only[dx]at sv;refine⟨_,_,?_,.inr (.inl ⟨g,d,T,f,rfl,hB,rfl,Y,K,N,TS,rfl⟩)⟩;simp[Builtin.append_,run_underlying r,sizeOf,typeInfo,x,Builtin.lenOf,Y,hf,Addr.add_lit,sv]
    ·have s:∀j y,xs[j]?=Z y->w.cell? ((⟨g,0,O⟩:Addr).add j)=Z y:=by
      intro j y D;rw[pZ,bu,hB.cell];rw[<- TS,cQ]at D
      split at D
      ·exact D
      ·cases D
     have U:=run_append_grow (P:=P) w t ty e i a r x hz ⟨g,0,O⟩ n d xs R s ⟨b,o,O⟩ m c news F L (by omega) (by omega) (growslice_fits (by omega) nY);exact⟨_,_,U,.inr (.inr (p d (by omega)))⟩
end
end
section
open Go.RowKit
def yu(a:Gh)(w:World)(g:Nat):Prop:=a.ω g=.ej/\a.h g=0/\oG w g
section
variable {h0:Nat->Nat} {io:M Nat} {w0:World} {f:Fm} {w:World}
theorem uU:∀{i:M C} {s j:St} {g:M D} {l:Bool},FQ s i=Z (g,l,j)->i.all C.cell=I/\g.length=i.length
 |[],s,j,g,l,h=>by simp[FQ]at h;simp[<- h.1]
 |c::i,s,j,g,l,h=>by
  unfold FQ at h;cases c with
  |d x=>
   simp only[aj]at h;obtain⟨⟨n,e,m⟩,b,a⟩:=h;simp[aC]at a;have:=uU b;simp[C.cell,this.1,<- a.1,this.2]
  |nil k o=>
   simp only[aj]at h;obtain⟨⟨n,e,m⟩,b,a⟩:=h;simp[aC]at a;have:=uU b;simp[C.cell,this.1,<- a.1,this.2]
  |ref r=>
   simp only at h
   split at h
   ·simp only[aj]at h;obtain⟨⟨n,e,m⟩,b,a⟩:=h;simp[aC]at a;have:=uU b;simp[C.cell,this.1,<- a.1,this.2]
   ·cases h
  |_=>simp at h
structure Emb (γ:Gh) (w:World) (dp:Bool) (G:Fp) (γ':Gh):Prop where
 β:γ'.β=γ.β
 sl:γ'.sl=γ.sl
 h:∀g,γ.h g<=γ'.h g
 some_:∀be∈G,be.2<=γ'.h be.1\/yu γ' w be.1
 deep:dp=true->(G.map cr).Nodup/\∀be∈G,yu γ' w be.1/\γ.ω be.1≠.ej
 ej:∀g,γ.ω g=.ej->γ'.ω g=.ej/\γ'.h g=γ.h g
 own:∀g,γ'.ω g=γ.ω g\/γ'.ω g=.ej\/γ'.ω g=.free
theorem yK:∀(q:M C) {t:Gh} {s S:St} {R:M Value} {T:M D} {U:Bool},Inv t h0 io w0 s f w->fu t w q R->FQ s q=Z (T,U,S)->
  ∃γ' G,Inv γ' h0 io w0 S f w/\fE w T R G/\Emb t w U G γ'
 |[],t,s,S,R,T,U,L,N,l=>by
  simp[FQ]at l;obtain⟨rfl,rfl,rfl⟩:=l;simp only[fu]at N;subst N;exact⟨t,[],L,by simp[fE],⟨rfl,rfl,λ_=>az _,λ_ h=>by simp at h,λ_=>by simp,λ_ h=>⟨h,rfl⟩,λ_=>.inl rfl⟩⟩
 |c::q,t,s,S,R,T,U,L,N,l=>by
  simp only[fu]at N;obtain⟨v,fC,rfl,y,V⟩:=N;unfold FQ at l;cases c with
  |d x=>
   simp only[aj]at l;obtain⟨⟨iL,Q,s1⟩,P,p⟩:=l;simp only[aC]at p;obtain⟨rfl,rfl,rfl⟩:=p;obtain⟨γ',G,K,B,m⟩:=yK q L V P;simp only[CR]at y;obtain⟨F,hr,hs⟩:=y;refine⟨γ',F++G,K,by simp only[fE];exact⟨v,fC,F,G,rfl,rfl,hr,B⟩,⟨m.β,m.sl,m.h,λj i=>?_,λhd=>?_,m.ej,m.own⟩⟩
   ·rcases aT.1 i with i|i
    ·exact .inl (aH (hs j i) (m.h _))
    ·exact m.some_ j i
   ·simp only[ai]at hd;have hF:F=[]:=by
     have:fE w [x] [v] F:=by simp only[fE];exact⟨v,[],F,[],rfl,by simp,hr,rfl,rfl⟩
     exact this.plain (by simp[hd.1])
    subst hF;exact m.deep hd.2
  |nil k fl=>
   simp only[aj]at l;obtain⟨⟨iL,Q,s1⟩,P,p⟩:=l;simp only[aC]at p;obtain⟨rfl,rfl,rfl⟩:=p;obtain⟨γ',G,K,B,m⟩:=yK q L V P;simp only[CR]at y;obtain⟨rfl,hk⟩:=y;refine⟨γ',G,K,?_,m⟩;simp only[fE];refine⟨_,fC,[],G,rfl,rfl,?_,B⟩;simp only[Rp];exact⟨O,0,0,rfl,rfl,az _,by simp[maxLen],λ_=>jC,hk,λ_ h=>by simp at h,.inl ⟨rfl,trivial⟩⟩
  |ref r=>
   simp only at l
   split at l
   ·rename_i x hx;simp only[aj]at l;obtain⟨⟨iL,Q,s1⟩,P,p⟩:=l;simp only[aC]at p;obtain⟨rfl,rfl,rfl⟩:=p;obtain⟨oT,G1,K,b1,A,m1,B,Y,d1,o1,k1,w1⟩:=L.take hx;obtain⟨my,G2,i2,r2,o⟩:=yK q K (V.mono (γ':=oT) m1 (λ_ _ _=>rfl) b1 A q) P;simp only[CR]at y;have up:∀j∈G1,(x.deep && !x.fz)=I->yu my w j.1:=λj i hd=>by
     obtain⟨_,hl⟩:=d1 hd;obtain⟨l1,H,l3⟩:=hl j i;obtain⟨X,W⟩:=o.ej _ l1;exact⟨X,W.trans H,l3⟩
    refine⟨my,G1++G2,i2,by simp only[fE];exact⟨v,fC,G1,G2,rfl,rfl,by rw[y.1];exact B,r2⟩,⟨o.β.trans b1,o.sl.trans A,λg=>aH (m1 g) (o.h g),λj i=>?_,λhd=>?_,λg hg=>?_,λg=>?_⟩⟩
    ·rcases aT.1 i with i|i
     ·cases hd:(x.deep && !x.fz) with
      |true=>exact .inr (up j i hd)
      |false=>exact .inl (aH (Y hd j i) (o.h _))
     ·exact o.some_ j i
    ·rw[ai]at hd;obtain⟨n,hd2⟩:=hd;obtain⟨n1,l1⟩:=d1 n;obtain⟨n2,H⟩:=o.deep hd2;have DI:x.deep=I:=by simp at n;exact n.1
     refine⟨?_,λj i=>?_⟩
     ·rw[cp,bH];refine⟨n1,n2,?_⟩;intro a ha b i e;subst e;obtain⟨YQ,Ay,rfl⟩:=bZ.1 ha;obtain⟨be2,CA,e2'⟩:=bZ.1 i;exact (H be2 CA).2 (by rw[e2'];exact (l1 YQ Ay).1)
     ·rcases aT.1 i with i|i
      ·refine⟨up j i n,?_⟩;rcases o1 j i with h|h
       ·rw[h];simp
       ·rw[DI]at h;cases h
      ·refine⟨(H j i).1,λh=>(H j i).2 ?_⟩;rw[(k1 j.1 (by rw[h];simp)).1];exact h
    ·have h3:=k1 g (by rw[hg];simp);obtain⟨X,W⟩:=o.ej g (by rw[h3.1];exact hg);exact⟨X,W.trans h3.2⟩
    ·rcases o.own g with h|h
     ·rw[h];exact w1 g
     ·exact .inr h
   ·cases l
  |_=>simp at l
theorem Inv.aaW{d:Gh}{s:St}(n:Inv d h0 io w0 s f w)(G:Fp)(t:∀k∈G,k.2<=d.h k.1\/yu d w k.1) :
  ∃e,Inv e h0 io w0 s f w/\e.β=d.β/\e.sl=d.sl/\(∀g,d.h g<=e.h g)/\eI e.h G/\(∀g,d.ω g=.free->e.ω g=.free)/\∀g,d.ω g≠.ej->e.h g=d.h g:=by
 have mx:∀(l:M Nat) (a b:Nat),(b=a\/b∈l)->b<=l.foldl max a:=by
  intro l
  induction l with
  |nil=>intro a b i;simp at i;simp[i]
  |cons c l p=>
   intro a b i;simp;have x:=p (max a c) (max a c) (.inl rfl);rcases i with rfl|i
   ·omega
   ·rcases aI.1 i with rfl|i
    ·omega
    ·exact p _ _ (.inr i)
 have q:=n.settle (h':=λy=>if d.ω y=.ej then d.h y+(G.map r9).foldl max 0 else d.h y) (ω':=λy=>if d.ω y=.ej then .free else d.ω y) (λy=>by split<;>omega)
  (λy m=>by
   have j:d.ω y=.ej:=by
    simp_all
   have v:=n.own y (by rw[j];simp);simp_all)
  (λy=>by
   by_cases j:d.ω y=.ej
   ·simp_all
   simp_all)
  (λy b m=>by
   by_cases j:d.ω y=.ej
   ·simp[j]at m
   ·simp[if_neg j]at m ⊢;exact n.nS y b m)
 refine⟨_,q,rfl,rfl,λy=>by dsimp only;split<;>omega,λk i=>?_,λg o=>by simp[o],λg o=>by simp[o]⟩;have r:=mx (G.map r9) 0 k.2 (.inr (cH i));dsimp only;split
 ·omega
 ·rename_i j;rcases t k i with h|h
  ·exact h
  ·exact absurd h.1 j
theorem K_{k:Nat}{X:Bool}:∀(p:M C) {o:Gh} {s y:St} {q:M Value} {es:M (M D)} {A:Bool},Inv o h0 io w0 s f w->fu o w p q->Dk k X s p=Z (es,A,y)->
  ∃γ' G,Inv γ' h0 io w0 y f w/\fy w es (q.flatMap λv=>v.cells.toList) G/\Emb o w A G γ'/\es.length=p.length/\(∀e∈es,e.length=k)/\(X=I->flat es)/\∀v∈q,v.cells.size=k
 |[],o,s,y,q,es,A,N,x,i=>by
  simp[Dk]at i;obtain⟨rfl,rfl,rfl⟩:=i;simp only[fu]at x;subst x;exact⟨o,[],N,by simp[fy],⟨rfl,rfl,λ_=>az _,λ_ h=>by simp at h,λ_=>by simp,λ_ h=>⟨h,rfl⟩,λ_=>.inl rfl⟩,rfl,λ_ h=>by simp at h,λ_=>jC,λ_ h=>by simp at h⟩
 |c::p,o,s,y,q,es,A,N,x,i=>by
  simp only[fu]at x;obtain⟨v,fC,rfl,hv,wm⟩:=x;unfold Dk at i
  split at i
  ·rename_i ds dp1 s1 W
   split at i
   ·rename_i L;simp only[aj]at i;obtain⟨⟨jK,dp2,s2⟩,h2,V⟩:=i;simp only[aC]at V;obtain⟨rfl,rfl,rfl⟩:=V;obtain⟨ud,r⟩:=uU W;obtain⟨Y,_,_⟩:=hv.cells ud;obtain⟨S,G1,i1,r1,l⟩:=yK _ N Y W;obtain⟨T,G2,i2,r2,m,l2,k2,f2,z2⟩:=K_ p i1 (wm.mono (γ':=S) l.h (λ_ _ _=>rfl) l.β l.sl p) h2;have nG:v.cells.size=k:=by rw[<- eU,Y.length,<- r];exact L.1
    have up:∀g,yu S w g->yu T w g:=λg t=>by
     obtain⟨F,B⟩:=m.ej g t.1;exact⟨F,B.trans t.2.1,t.2.2⟩
    refine⟨T,G1++G2,i2,?_,⟨m.β.trans l.β,m.sl.trans l.sl,λg=>aH (l.h g) (m.h g),λn j=>?_,λhd=>?_,λg t=>?_,λg=>?_⟩,by simp[l2],?_,?_,?_⟩
    ·simp only[fy,List.flatMap_cons];exact⟨_,_,G1,G2,rfl,rfl,r1,r2⟩
    ·rcases aT.1 j with j|j
     ·rcases l.some_ n j with h|h
      ·exact .inl (aH h (m.h _))
      ·exact .inr (up _ h)
     ·exact m.some_ n j
    ·rw[ai]at hd;obtain⟨n1,H⟩:=l.deep hd.1;obtain⟨n2,R⟩:=m.deep hd.2;refine⟨?_,λn j=>?_⟩
     ·rw[cp,bH];refine⟨n1,n2,?_⟩;intro a ha b j e;subst e;obtain⟨YQ,Ay,rfl⟩:=bZ.1 ha;obtain⟨Q,CA,P⟩:=bZ.1 j;exact (R Q CA).2 (by rw[P];exact (H YQ Ay).1.1)
     ·rcases aT.1 j with j|j
      ·exact⟨up _ (H n j).1,(H n j).2⟩
      ·refine⟨(R n j).1,λh=>(R n j).2 ?_⟩;exact (l.ej _ h).1
    ·obtain⟨F,B⟩:=l.ej g t;obtain⟨u3,u4⟩:=m.ej g F;exact⟨u3,u4.trans B⟩
    ·rcases m.own g with h|h
     ·rw[h];exact l.own g
     ·exact .inr h
    ·intro e i;rcases aI.1 i with rfl|i
     ·exact L.1
     ·exact k2 e i
    ·intro U e i;rcases aI.1 i with rfl|i
     ·have:=L.2 U
      simpa [dW] using this
     ·exact f2 U e i
    ·intro d K;rcases aI.1 K with rfl|K
     ·exact nG
     ·exact z2 d K
   ·cases i
  ·cases i
end
end
section
open Go.RowKit
theorem BJ{b:Nat}:∀{c:M C},c.all C.const=I->C.kN b c=c
 |[],_=>by simp[C.kN]
 |a::c,h=>by
  simp only[cV,ai]at h;have d:=BJ (b:=b) h.2;have e:=h.1;cases a<;>simp_all[C.kN,C.kill,C.const]
def ahm:Value->D->Bool
 | .int k n,.int d c=>k ==d && n ==c && k.wrap n ==n
 | .bool b,.bool e=>b ==e
 | .string s,.str a=>s.data.toList ==a.data.toList && nP s.size maxLen
 | .slice O 0 0,.list k _ []=>gh 0 k
 |_,_=>J
def ER:M Value->M D->Bool
 |[],[]=>I
 |v::a,c::cs=>ahm v c && ER a cs
 |_,_=>J
theorem HL{w:World}:∀(a:M Value) (c:M D),ER a c=I->fE w c a []
 |[],[],_=>by simp[fE]
 |[],_::_,h=>by simp[ER]at h
 |_::_,[],h=>by simp[ER]at h
 |v::a,d::c,h=>by
  simp only[ER,ai]at h;simp only[fE];refine⟨v,a,[],[],rfl,rfl,?_,HL a c h.2⟩;have ok:=h.1;unfold ahm at ok
  split at ok
  ·simp only[ai,beq_iff_eq]at ok;obtain⟨⟨rfl,rfl⟩,b⟩:=ok;simp[Rp,b]
  ·simp only[beq_iff_eq]at ok;subst ok;simp[Rp]
  ·simp only[ai,beq_iff_eq,Nat.ble_eq]at ok;obtain⟨e,b⟩:=ok;rw[JX e]at b ⊢;simp[Rp,b]
  ·simp only[nR]at ok;simp only[Rp];exact⟨O,0,0,rfl,rfl,az _,by simp[maxLen],λ_=>jC,ok,λ_ h=>by simp at h,.inl ⟨rfl,trivial⟩⟩
  ·cases ok
section
variable {P:Program} {γ:Gh} {h0:Nat->Nat} {io:M Nat} {w0:World} {s s':St} {f:Fm} {w:World} {N:Nat} {ty:TypeId} {pos:String} {aft:Array Edge} {gd:u (Nat×Bool)} {K:Fm->World->Prop}
 {cf:Nat->M A->u (M A×M A)} {mf:Nat->Bool->M D->Int->u (M D×Int)}
theorem MZ{T:TypeId}{a:M Value}(h:uh P T=Z a):∃z0:Value,z0.cells.toList=a/\∀w,(zeroValue T).run P w=.ok z0 w:=by
 unfold uh at h;cases c:P.info? T with
 |none=>rw[c]at h;simp at h
 |some i=>
  rw[c]at h;cases b:i.zero with
  |none=>simp[b]at h
  |some z0=>
   simp[b]at h;exact⟨z0,h,λw=>by simp[zeroValue,typeInfo,c,b]⟩
theorem aaj(d:Inv γ h0 io w0 s f w){T:TypeId}{a:M Value}{j:M C}{b:Nat}(r:uh P T=Z a)(H:JJ a j=I)(i:lQ cf mf s (Z b) (.alloc j)=Z s')
  (h:∀c n k,Inv c h0 io w0 s' n k->Tr (Z b) [b] γ w c k f n->K n k):ui P N ⟨Z b,.alloc T,ty,pos,aft,gd⟩ f w K:=by
 simp only[lQ]at i
 split at i
 ·rename_i v;simp only[aa]at i;subst i;obtain⟨z0,m,l⟩:=MZ r;have l:(execOp (fr f N).eval ⟨Z b,.alloc T,ty,pos,aft,gd⟩).run P w=.ok (.value (.pointer (Z ⟨w.heap.size,0,O⟩))) (w.alloc (.cells a.toArray T)):=by
   simp[execOp,Instr.alloc,l,newVar,newRow,newObj,Sem.run,<- m]
  refine HJ l λq L o hB=>?_;have G:=d.Co o;obtain⟨c,p,F,B,y,_,_⟩:=G.Np (b:=b) hB (.inl (d.rX (az _))) (.inl d.size) (d.fW _ (az _)) (zx a j H);rw[BJ v]at p;refine h c _ q (p.put b (.ptr b 0) _ (by simp only[CR,F])) ⟨kz d o _,λx t=>B x (λe=>t (by rw[e])),λg=>by rw[y];exact az _,.put⟩
 ·cases i
theorem ag1(a:Inv γ h0 io w0 s f w){T:TypeId}{x:Operand}{y:KX}{b:Nat}(i:ki N x y=I)(c:lQ cf mf s (Z b) (.box y)=Z s')
  (h:∀γ' k d,Inv γ' h0 io w0 s' k d->Tr (Z b) [b] γ w γ' d f k->K k d):ui P N ⟨Z b,.box T x,ty,pos,aft,gd⟩ f w K:=by
 simp only[lQ]at c
 split at c
 ·rename_i p;simp only[aa]at c;subst c;obtain⟨n,_,_⟩:=(ct a i).cells p;have o:(execOp (fr f N).eval ⟨Z b,.box T x,ty,pos,aft,gd⟩).run P w=.ok (.value (.pointer (Z ⟨w.heap.size,0,O⟩))) (w.alloc (.cells ((fr f N).eval x).cells.toList.toArray T)):=by
   simp[execOp,Instr.box,newVar,newRow,newObj,Sem.run]
  refine HJ o λm C j hB=>?_;have B:=a.Co j;have l:fu γ m (gj s y).cells ((fr f N).eval x).cells.toList:=n.mono (γ':=γ) (λ_=>az _) (kz a j (λ_=>False)).cell rfl rfl _;obtain⟨γ',v,t,r,q,_,_⟩:=B.Np (b:=b) hB (.inl (a.rX (az _))) (.inl a.size) (a.fW _ (az _)) l;refine h γ' _ m (v.put b (.ptr b 0) _ (by simp only[CR,t])) ⟨kz a j _,λx i=>r x (λe=>i (by rw[e])),λg=>by rw[q];exact az _,.put⟩
 ·cases c
theorem fy.Co{w a:World}{es:M (M D)}{b:M Value}{G:Fp}(h:fy w es b G)(c:Bv w.heap.size w a):fy a es b G:=
 h.dL es λe d j _=>World.cell?_of_block (w:=w) (c.block _ (fy.lt es h e d))
theorem Inv.newRow(d:Inv γ h0 io w0 s f w){γ0:Gh}{i:World}(l:Bv w.heap.size w i){T:TypeId}{t:M Value}(hB:kJ i w.heap.size T t){es:M (M D)}{q:M Value}{k:Nat}{B dp:Bool}{G:Fp}{n c:Nat}(hs:i.heap.size=w.heap.size+1)
  (C:fy w es q G) (hx:t.take (n * k)=q) (Y:n=es.length) (CB:n<=c) (hc:c<=maxLen) (x:t.length=c * k) (X:0 < k) (BG:∀e∈es,e.length=k) (W:B=I->flat es) (he:Emb γ0 w dp G γ) (r:Nat) :
  ∃b,Inv b h0 io w0 (s.newRow r ⟨es,k,B,dp,I,J⟩) f i/\b.sl r=.slice (Z ⟨w.heap.size,0,O⟩) n c/\b.β=γ.β/\(∀g,γ.h g<=b.h g):=by
 have v:iH i w.heap.size 0 q:=by
  intro j a y;rw[bu,hB.cell];rw[<- hx,cQ]at y
  split at y
  ·exact y
  ·cases y
 cases dp with
 |true=>
  obtain⟨kl,V⟩:=he.deep rfl;have S:=d.Co l;have F:pz γ.h i ⟨es,k,B,I,I,J⟩ (.slice (Z ⟨w.heap.size,0,O⟩) n c) (w.heap.size::G.map cr):=by
   refine⟨_,n,c,rfl,Y,CB,hc,X,BG,W,.inr ⟨w.heap.size,0,q,G,rfl,by omega,⟨by omega,l.Gt _ (az _)⟩,C.Co l,v,by rw[d.fW _ (az _)];omega,λ_=>d.fW _ (az _),λ_=>⟨rfl,T,t,hB,x⟩,λ_=>⟨rfl,λo m=>⟨(V o m).1.2.1,(kz d l (λ_=>False)).fX _ (V o m).1.2.2⟩⟩,λh=>by cases h⟩⟩
  have ed:=fy.lt es C;obtain⟨b,R,Q,L,H,_⟩:=S.uG (r:=r) F (cx.2 ⟨λhm=>by
    obtain⟨o,m,e⟩:=bZ.1 hm;have:=ed o m;omega,kl⟩) (λg p=>by
    rcases aI.1 p with rfl|p
    ·exact⟨.inl (d.rX (az _)),by omega,.inl d.size⟩
    ·obtain⟨o,m,rfl⟩:=bZ.1 p;have x:=(V o m).1.1;exact⟨.inr (.inl x),by have:=ed o m;omega,(d.own _ (by rw[x];simp)).2⟩)
  exact⟨b,R,Q,L,λg=>by rw[H];exact az _⟩
 |false=>
  obtain⟨my,i2,b2,s2,m2,U,fr2,k2⟩:=d.aaW G he.some_;have S:=i2.Co l;have F:pz my.h i ⟨es,k,B,J,I,J⟩ (.slice (Z ⟨w.heap.size,0,O⟩) n c) [w.heap.size]:=by
   refine⟨_,n,c,rfl,Y,CB,hc,X,BG,W,.inr ⟨w.heap.size,0,q,G,rfl,by omega,⟨by omega,l.Gt _ (az _)⟩,C.Co l,v,by rw[i2.fW _ (az _)];omega,λ_=>i2.fW _ (az _),λ_=>⟨rfl,T,t,hB,x⟩,(λh=>by cases h),λ_=>⟨rfl,U⟩⟩⟩
  obtain⟨b,R,Q,L,H,_⟩:=S.uG (r:=r) F (by simp) (λg p=>by
    simp only[db]at p;subst p;exact⟨.inl (i2.rX (az _)),by omega,.inl d.size⟩)
  exact⟨b,R,Q,L.trans b2,λg=>by rw[H];exact m2 g⟩
def EO(N:Nat):Nat->M (Nat×Operand)->M KX->Bool
 |_,[],[]=>I
 |j,(i,x)::a,y::ys=>i ==j && ki N x y && EO N (j+1) a ys
 |_,_,_=>J
theorem HK(b:Inv γ h0 io w0 s f w):∀(j:Nat) (a:M (Nat×Operand)) (ys:M KX),EO N j a ys=I->
  fu γ w (ys.map (gj s)) (a.map λp=>(fr f N).eval p.2)/\a.map cr=List.range' j a.length/\a.length=ys.length
 |_,[],[],_=>by simp[fu]
 |_,[],_::_,h=>by simp[EO]at h
 |_,_::_,[],h=>by simp[EO]at h
 |j,(i,x)::a,y::ys,h=>by
  simp only[EO,ai,beq_iff_eq]at h;obtain⟨⟨rfl,k⟩,g⟩:=h;obtain⟨e,d,c⟩:=HK b (i+1) a ys g;refine⟨?_,by simp[List.range',d],by simp[c]⟩;simp only[aZ,fu];exact⟨_,_,rfl,ct b k,e⟩
theorem Lj{k:Nat}:∀(d:M (Nat×Value)) (j:Nat) (b A:M Value),b.length=j * k->d.map cr=List.range' j d.length->(∀v∈d,v.2.cells.size=k)->A.length=d.length * k->
  Instr.fill (λi=>Z (i * k,k)) (b++A).toArray d=Z (b++d.flatMap λv=>v.2.cells.toList).toArray
 |[],j,b,A,_,_,_,g=>by
  have:A=[]:=cq (by simpa using g);simp[Instr.fill,this]
 |(i,v)::d,j,b,A,l,m,n,g=>by
  simp only[aZ,aG,List.range',bY]at m;obtain⟨rfl,m⟩:=m;have h:=n (i,v) (by simp);simp only at h
  simp only[aG,j5]at g;simp only[Instr.fill,oz,a_,l,g,h];rw[if_neg (by simp)];have e:v.cells.zipIdx.foldl (λr (c,j)=>r.setIfInBounds (i * k+j) c) (b++A).toArray=((b++v.cells.toList)++A.drop k).toArray:=by
   have o:=Q3 (i * k) v.cells.toList (b++A).toArray (by simp[l,g,h]);simp only[yi]at o;rw[o]
   congr 1
   have t1:(b++A).take (i * k)=b:=by rw[<- l];exact oA
   have t2:(b++A).drop (i * k+k)=A.drop k:=by
    rw[List.drop_append,fP (by omega),l,uA,av]
   unfold cL;simp only[eU,h,t1,t2]
  rw[e];have p:=Lj d (i+1) (b++v.cells.toList) (A.drop k) (by simp[l,h,j5]) m (λa q=>n a (by simp[q])) (by simp[g]);rw[p];simp
theorem aak(C:Inv γ h0 io w0 s f w){T a:TypeId}{n k:Nat}{fl:Bool}{b:Array (Nat×Operand)}{ys:M KX}{r:Nat}(hU:P.underlying T=Z (.slice a))(hS:oR P a=Z k)(l:n=0\/(uh P a).isSome=I)(B:EO N 0 b.toList ys=I)(hn:n=b.size)(hm:nP (n * k) 16777216=I)
  (e:lQ cf mf s (Z r) (.uf k fl ys)=Z s') (h:∀d L t,Inv d h0 io w0 s' L t->Tr (Z r) (r::zH (ys.map (gj s))) γ w d t f L->K L t):ui P N ⟨Z r,.buildSlice T n b,ty,pos,aft,gd⟩ f w K:=by
 simp only[lQ]at e
 split at e
 ·rename_i es dp s1 F
  split at e
  ·rename_i X;simp only[aa]at e;subst e;obtain⟨H,R,m⟩:=HK C 0 _ _ B;obtain⟨oT,G,i1,W,Q,l1,Y,f1,z1⟩:=K_ _ C H F;have nG:(b.toList.map λp=>(fr f N).eval p.2).flatMap (λv=>v.cells.toList)=(b.toList.map λp=>(p.1,(fr f N).eval p.2)).flatMap λv=>v.2.cells.toList:=by
    simp[List.flatMap_map]
   have RZ:n=es.length:=by rw[l1,aA,<- m,hn,eU]
   have Ca:((b.toList.map λp=>(fr f N).eval p.2).flatMap λv=>v.cells.toList).length=n * k:=by rw[fy.length es W Y,RZ]
   have hm':n * k<=16777216:=by simpa using hm
   have mF:(execOp (fr f N).eval ⟨Z r,.buildSlice T n b,ty,pos,aft,gd⟩).run P w=.ok (.value (.slice (Z ⟨w.heap.size,0,O⟩) n n)) (w.alloc (.cells ((b.toList.map λp=>(fr f N).eval p.2).flatMap λv=>v.cells.toList).toArray a)):=by
    have q:¬(n * k > 2 ^ 24):=by omega
    have S:∀A:Array Value,A.size=n * k->Instr.fill (λi=>Z (i * k,k)) A (b.toList.map λp=>(p.1,(fr f N).eval p.2))=Z ((b.toList.map λp=>(fr f N).eval p.2).flatMap λv=>v.cells.toList).toArray:=by
     intro A hA;have h1:=Lj (k:=k) (b.toList.map λp=>(p.1,(fr f N).eval p.2)) 0 [] A.toList (by simp) (by rw[List.map_map,aA];exact R) (by
      intro v hv;obtain⟨p,hp,rfl⟩:=bZ.1 hv;exact z1 _ (cH hp)) (by simp[hA,hn])
     rw[nG]
     simpa using h1
    have o:=λV:Array Value=>S ((Array.range (n * k)).map (V[· % V.size]!)) (by simp);by_cases U:n * k=0
    ·have j:=o #[];simp only[execOp,Instr.buildSlice,Sem.run_bind,run_underlying hU,Result.andThen_ok,run_sizeOf hS,if_neg q,if_pos U,Sem.run_pure];simp only[mL]at j ⊢;rw[j];simp[newRow,newObj,Sem.run]
    ·have Sb:(uh P a).isSome=I:=by
      rcases l with l|l
      ·subst l;simp at U
      ·exact l
     obtain⟨zl,N8⟩:=cy.1 Sb;obtain⟨z0,_,y⟩:=MZ N8;have j:=o z0.cells;simp only[execOp,Instr.buildSlice,Sem.run_bind,run_underlying hU,Result.andThen_ok,run_sizeOf hS,if_neg q,if_neg U,y,Sem.run_pure];simp only[mL]at j ⊢;rw[j];simp[newRow,newObj,Sem.run]
   refine HJ mF λw1 hs hk hB=>?_;obtain⟨d,h2,j,h4,h5⟩:=i1.newRow hk hB (n:=n) (c:=n) hs W (by rw[<- Ca,bo]) RZ (az _) (by simp[maxLen];have:n<=n * k:=Nat.le_mul_of_pos_right n X;omega) Ca X Y f1 Q r;refine h d _ w1 (h2.put r (.ref r) _ (by simp only[CR,j];exact⟨trivial,_,_,_,rfl⟩)) ⟨kz C hk _,λx _=>by rw[h4,Q.β],λg=>aH (Q.h g) (h5 g),.put⟩
  ·cases e
 ·cases e
end
end
section
open Go.RowKit
section
variable {γ:Gh} {h0:Nat->Nat} {io:M Nat} {w0:World} {s s':St} {f:Fm} {w:World}
theorem Inv.tM(v:Inv γ h0 io w0 s f w){r:Nat}{x:Row}(Y:look s.rw r=Z x) :
  ∃a A n c,Inv a h0 io w0 (s.cY r) f w/\a.β=γ.β/\a.sl=γ.sl/\a.h=γ.h/\(∀g,γ.ω g≠.row r->a.ω g=γ.ω g)/\(∀g,γ.ω g=.row r->a.ω g=.ej)/\
   γ.sl r=.slice A n c/\n=x.es.length/\n<=c/\c<=maxLen/\0 < x.k/\(∀e∈x.es,e.length=x.k)/\(x.fl=I->flat x.es)/\
   ((A=O/\c=0)\/∃g o m G,A=Z ⟨g,o,O⟩/\g < w.heap.size/\γ.ω g=.row r/\a.ω g=.ej/\oG w g/\fy w x.es m G/\iH w g o m/\γ.h g<=o+n * x.k/\(x.fz=J->γ.h g=0)/\
    (x.app=I->o=0/\∃T C,kJ w g T C/\C.length=c * x.k)/\(∀d∈G,d.2<=γ.h d.1\/(yu a w d.1/\d.1≠g))/\(x.deep=I->(g::G.map cr).Nodup/\∀d∈G,yu a w d.1/\γ.ω d.1=.row r)):=by
 obtain⟨F,hR,t,p⟩:=v.rw r x Y;obtain⟨A,n,c,q1,q2,V,U,S,R,Q,P⟩:=hR;have Yx:=v.cY r;have EK:∀g,γ.ω g=.row r->(∀b K,look (s.cY r).bx b=Z K->γ.ω g≠.box b)/\∀q y,look (s.cY r).rw q=Z y->γ.ω g≠.row q:=by
  intro g j;refine⟨λb K _=>by rw[j];simp,λq y X=>?_⟩;simp only[St.cY,eN]at X
  simp_all
 have W:=Yx.settle (h':=γ.h) (ω':=λy=>if γ.ω y=.row r then .ej else γ.ω y) (λ_=>az _) (λg j=>absurd rfl j)
  (λy=>by
   by_cases i:γ.ω y=.row r
   ·exact .inr ⟨.inr (by simp[i]),by rw[i];simp,EK y i⟩
   ·exact .inl (by simp[i]))
  (λy b i=>by
   by_cases L:γ.ω y=.row r
   ·simp[L]at i
   ·simp only[if_neg L]at i;exact v.nS y b i)
 refine⟨_,A,n,c,W,rfl,rfl,rfl,λg j=>by simp[j],λg j=>by simp[j],q1,q2,V,U,S,R,Q,?_⟩;rcases P with ⟨rfl,rfl,rfl⟩|⟨g,o,m,G,rfl,a2,a3,a4,a5,a6,a7,a8,a9,D⟩
 ·exact .inl ⟨rfl,rfl⟩
 ·have B:γ.ω g=.row r:=by
   cases hd:x.deep with
   |true=>exact p g (by rw[(a9 hd).1];simp)
   |false=>exact p g (by rw[(D hd).1];simp)
  have N:x.deep=I->∀d∈G,yu {γ with h:=γ.h,ω:=λy=>if γ.ω y=.row r then .ej else γ.ω y } w d.1/\γ.ω d.1=.row r:=λhd d l=>by
   have H:γ.ω d.1=.row r:=p _ (by rw[(a9 hd).1];simp;exact .inr ⟨d.2,l⟩);exact⟨⟨by simp[H],((a9 hd).2 d l).1,((a9 hd).2 d l).2⟩,H⟩
  refine .inr ⟨g,o,m,G,rfl,a2,B,by simp[B],a3,a4,a5,a6,a7,a8,λd l=>?_,λhd=>⟨by rw[<- (a9 hd).1];exact t,N hd⟩⟩;cases hd:x.deep with
  |true=>
   refine .inr ⟨(N hd d l).1,λe=>?_⟩;rw[(a9 hd).1]at t;exact (cx.1 t).1 (by rw[<- e];exact cH l)
  |false=>exact .inl ((D hd).2 d l)
theorem Inv.GQ(v:Inv γ h0 io w0 s f w){r:Nat}{x:Row}{n c g o:Nat}{B:M Value}{G:Fp}(W:n=x.es.length)(CB:n<=c)(Y:c<=maxLen)(R:0 < x.k)(BG:∀e∈x.es,e.length=x.k)(N:x.fl=I->flat x.es)
  (C:g < w.heap.size) (P:γ.ω g=.ej\/γ.ω g=.free) (t:w0.heap.size<=g\/g∈io) (N5:oG w g) (D:fy w x.es B G) (j:iH w g o B) (X:γ.h g<=o+n * x.k) (K:x.fz=J->γ.h g=0) (Q:x.app=I->o=0/\∃T L,kJ w g T L/\L.length=c * x.k)
  (BI:∀p∈G,p.2<=γ.h p.1\/(yu γ w p.1/\p.1≠g)) (DI:x.deep=I->(g::G.map cr).Nodup/\∀p∈G,yu γ w p.1) :
  ∃i F,Inv i h0 io w0 s f w/\i.β=γ.β/\i.sl=γ.sl/\(∀y,γ.h y<=i.h y)/\pz i.h w x (.slice (Z ⟨g,o,O⟩) n c) F/\F.Nodup/\(∀y∈F,(i.ω y=.free\/i.ω y=.ej\/i.ω y=.row r)/\y < w.heap.size/\(w0.heap.size<=y\/y∈io))/\(x.deep=J->eI i.h G)/\(∀y,i.ω y=γ.ω y\/i.ω y=.free):=by
 cases hd:x.deep with
 |true=>
  obtain⟨kl,DM⟩:=DI hd;have H:pz γ.h w x (.slice (Z ⟨g,o,O⟩) n c) (g::G.map cr):=by
   refine⟨_,n,c,rfl,W,CB,Y,R,BG,N,.inr ⟨g,o,B,G,rfl,C,N5,D,j,X,K,Q,λ_=>⟨rfl,λp m=>(DM p m).2⟩,λh=>by rw[hd]at h;cases h⟩⟩
  have ed:=fy.lt _ D;exact⟨γ,_,v,rfl,rfl,λ_=>az _,H,kl,λy q=>by
    rcases aI.1 q with rfl|q
    ·exact⟨by rcases P with h|h<;>simp[h],C,t⟩
    ·obtain⟨p,m,rfl⟩:=bZ.1 q;have j:=(DM p m).1;exact⟨.inr (.inl j),ed p m,(v.own _ (by rw[j];simp)).2⟩,(λh=>by cases h),λ_=>.inl rfl⟩
 |false=>
  have mx:∀(l:M Nat) (a b:Nat),(b=a\/b∈l)->b<=l.foldl max a:=by
   intro l
   induction l with
   |nil=>intro a b m;simp at m;simp[m]
   |cons d l U=>
    intro a b m;simp only[wO];have h1:=U (max a d) (max a d) (.inl rfl);rcases m with rfl|m
    ·omega
    ·rcases aI.1 m with rfl|m
     ·omega
     ·exact U _ _ (.inr m)
  have hs:=v.settle (h':=λy=>if γ.ω y=.ej/\y≠g then γ.h y+(G.map r9).foldl max 0 else γ.h y) (ω':=λy=>if γ.ω y=.ej/\y≠g then .free else γ.ω y) (λy=>by split<;>omega)
   (λy q=>by
    have j:γ.ω y=.ej:=by
     simp_all
    have V:=v.own y (by rw[j];simp);exact⟨V.1,V.2,λ_ _ _=>by rw[j];simp,λ_ _ _=>by rw[j];simp⟩)
   (λy=>by
    by_cases j:γ.ω y=.ej/\y≠g
    ·simp_all
    ·exact .inl (by rw[if_neg j]))
   (λy b q=>by
    by_cases j:γ.ω y=.ej/\y≠g
    ·rw[if_pos j]at q;cases q
    ·rw[if_neg j]at q ⊢;exact v.nS y b q)
  have S:eI (λy=>if γ.ω y=.ej/\y≠g then γ.h y+(G.map r9).foldl max 0 else γ.h y) G:=by
   intro p m;have hle:=mx (G.map r9) 0 p.2 (.inr (cH m));dsimp only;split
   ·omega
   ·rename_i j;rcases BI p m with h|h
    ·exact h
    ·exact absurd ⟨h.1.1,h.2⟩ j
  have A:(λy=>if γ.ω y=.ej/\y≠g then γ.h y+(G.map r9).foldl max 0 else γ.h y) g=γ.h g:=by simp
  have H:pz (λy=>if γ.ω y=.ej/\y≠g then γ.h y+(G.map r9).foldl max 0 else γ.h y) w x (.slice (Z ⟨g,o,O⟩) n c) [g]:=by
   refine⟨_,n,c,rfl,W,CB,Y,R,BG,N,.inr ⟨g,o,B,G,rfl,C,N5,D,j,by rw[A];exact X,λh=>by rw[A];exact K h,Q,(λh=>by rw[hd]at h;cases h),λ_=>⟨rfl,S⟩⟩⟩
  exact⟨_,[g],hs,rfl,rfl,λy=>by dsimp only;split<;>omega,H,by simp,λy q=>by
    simp only[db]at q;subst q;refine⟨?_,C,t⟩;rcases P with h|h<;>simp[h],λ_=>S,λy=>by dsimp only;split<;>simp⟩
theorem Inv.qc(R:Inv γ h0 io w0 s f w){r:Nat}{x:Row}{n c g o:Nat}{i:M Value}{G:Fp}(P:n=x.es.length)(CB:n<=c)(V:c<=maxLen)(A:0 < x.k)(BG:∀e∈x.es,e.length=x.k)(m:x.fl=I->flat x.es)
  (U:g < w.heap.size) (p:γ.ω g=.ej\/γ.ω g=.free) (d:w0.heap.size<=g\/g∈io) (N5:oG w g) (L:fy w x.es i G) (Q:iH w g o i) (S:γ.h g<=o+n * x.k) (l:x.fz=J->γ.h g=0) (v:x.app=I->o=0/\∃T j,kJ w g T j/\j.length=c * x.k)
  (BI:∀b∈G,b.2<=γ.h b.1\/(yu γ w b.1/\b.1≠g)) (DI:x.deep=I->(g::G.map cr).Nodup/\∀b∈G,yu γ w b.1) :
  ∃a,Inv a h0 io w0 (s.newRow r x) f w/\a.sl r=.slice (Z ⟨g,o,O⟩) n c/\a.β=γ.β/\(∀y,γ.h y<=a.h y)/\∀q,q≠r->a.sl q=γ.sl q:=by
 obtain⟨oT,F,D,b1,t,B,W,C,X,K,H⟩:=R.GQ (r:=r) P CB V A BG m U p d N5 L Q S l v BI DI;obtain⟨a,h2,h3,h4,h5,_,Y⟩:=D.uG (r:=r) W C X;exact⟨a,h2,h3,h4.trans b1,λy=>by rw[h5];exact B y,λq N=>by rw[Y q N,t]⟩
theorem Inv.vY(U:Inv γ h0 io w0 s f w){r:Nat}{x:Row}{n c g o:Nat}{m:M Value}{G:Fp}(R:n=x.es.length)(CB:n<=c)(X:c<=maxLen)(K:0 < x.k)(BG:∀e∈x.es,e.length=x.k)(C:x.fl=I->flat x.es)
  (W:g < w.heap.size) (D:γ.ω g=.ej\/γ.ω g=.free) (j:w0.heap.size<=g\/g∈io) (N5:oG w g) (Q:fy w x.es m G) (S:iH w g o m) (V:γ.h g<=o+n * x.k) (A:x.fz=J->γ.h g=0) (H:x.app=I->o=0/\∃T p,kJ w g T p/\p.length=c * x.k)
  (BI:∀b∈G,b.2<=γ.h b.1\/(yu γ w b.1/\b.1≠g)) (DI:x.deep=I->(g::G.map cr).Nodup/\∀b∈G,yu γ w b.1) (B:γ.sl r=.slice (Z ⟨g,o,O⟩) n c) :
  ∃a,Inv a h0 io w0 (s.setRow r x) f w/\a.sl=γ.sl/\a.β=γ.β/\(∀y,γ.h y<=a.h y)/\(x.deep=J->eI a.h G)/\(∀y,a.ω y=γ.ω y\/a.ω y=.free\/a.ω y=.row r):=by
 obtain⟨oT,F,P,b1,q,L,t,N,Y,i,d⟩:=U.GQ (r:=r) R CB X K BG C W D j N5 Q S V A H BI DI;rw[<- B,<- q]at t;obtain⟨a,h2,h3,h4,v,h6⟩:=P.setRow (r:=r) t N Y;exact⟨a,h2,h3.trans q,h4.trans b1,λy=>by rw[v];exact L y,λhd=>by rw[v];exact i hd,λy=>by
  rcases h6 y with h|h
  ·rw[h];rcases d y with l|l
   ·exact .inl l
   ·exact .inr (.inl l)
  ·exact .inr (.inr h)⟩
theorem mM(m:Inv γ h0 io w0 s f w){g:Nat}{b:World}{M:Own->Prop}(a:GB g w b)(l:M (γ.ω g))(k:∀j,j < γ.h g->b.cell? ⟨g,j,O⟩=w.cell? ⟨g,j,O⟩):uC γ M w b where
 os:=a.os
 tape:=a.tape
 output:=a.output
 size:=by rw[a.size];exact az _
 block y c d:=a.block y (λe=>d (e▸l))
 cell y j i:=by
  by_cases e:y=g
  ·subst e;exact k j i
  ·exact World.cell?_of_block (w:=w) (a.block y e)
 fX y c:=⟨by rw[a.size];exact c.1,λj=>by
  by_cases e:y=g
  ·subst e;exact a.fz j
  ·rw[World.frozen?_of_block (w:=w) (a.block y e)];exact c.2 j⟩
end
theorem OK(p m q a:M Value)(h:a.length=m.length):cL (p++(m++q)) p.length a=p++a++q:=by
 unfold cL;simp_all
theorem jO{a b:M Value}{i:Nat}(h:i+b.length<=a.length):(cL a i b).length=a.length:=by
 unfold cL;simp
 omega
theorem Om{g:Nat}{d b e Gs c a:Fp}(h:(g::(d++((b++(e++Gs))++c)).map cr).Nodup)(i:(a.map cr).Nodup)(hd:∀y∈(d++((b++(e++Gs))++c)).map cr,y∉a.map cr)(f:g∉a.map cr) :
  (g::(d++((b++a++Gs)++c)).map cr).Nodup:=by
 simp only[cp,cx,aT,bH,not_or]at *
 grind
section
variable {P:Program} {γ:Gh} {h0:Nat->Nat} {io:M Nat} {w0:World} {s s':St} {f:Fm} {w:World} {N:Nat} {ty:TypeId} {pos:String} {aft:Array Edge} {gd:u (Nat×Bool)} {K:Fm->World->Prop}
 {cf:Nat->M A->u (M A×M A)} {mf:Nat->Bool->M D->Int->u (M D×Int)}
theorem HD{a:Array Value}{k:Nat}(c:a.size=k)(g:0 < k):∀m:Nat,(madeCells a (m * k)).toList=(aY m a.toList).flatten
 |0=>by simp[madeCells]
 |m+1=>by
  rw[gK,eH,<- HD c g m]
  apply eE
  intro i;have e:∀n j,(madeCells a n).toList[j]?=if j < n then Z a[j % a.size]! else O:=by
   intro n j;simp only[madeCells,mL,Array.toList_range,List.getElem?_map];split
   ·rename_i h;simp[h]
   ·rename_i h;simp[h]
  rw[e,yl,e];simp only[eU,c,j5];by_cases b:i < k
  ·rw[if_pos (by omega),if_pos b,Nat.mod_eq_of_lt b];simp[c,b]
  ·rw[if_neg b];by_cases d:i < m * k+k
   ·rw[if_pos d,if_pos (by omega)]
    rw[Nat.mod_eq_sub_mod (by omega)]
   ·rw[if_neg d,if_neg (by omega)]
theorem Q6{w:World}{b:M D}{a:M Value}(h:fE w b a []):∀m:Nat,fy w (aY m b) (aY m a).flatten []
 |0=>by simp[fy]
 |m+1=>by
  rw[gK,gK,eH];simp only[fy];exact⟨a,_,[],[],rfl,rfl,h,Q6 h m⟩
theorem adb(v:Inv γ h0 io w0 s f w){T b:TypeId}{k l:Nat}{fl:Bool}{o:M D}{x C:Operand}{y:KX}{r:Nat}{i:TypeInfo}{a:Value}(hU:P.underlying T=Z (.slice b))(hI:P.info? b=Z i)(hz:i.zero=Z a)(nG:i.size=k)(Q:i.bytes=l)(V:0 < k)(G:ER a.cells.toList o=I)(N8:o.length=k)(ti:fl=I->dW o=I)
  (q:ki N x y=I) (L:ki N C y=I) (d:lQ cf mf s (Z r) (.make k l fl o y)=Z s') (h:∀j R F,Inv j h0 io w0 s' R F->Tr (Z r) [r] γ w j F f R->K R F):ui P N ⟨Z r,.makeSlice T x C,ty,pos,aft,gd⟩ f w K:=by
 have t:=ct v q;have B:=ct v L;simp only[lQ]at d
 split at d
 ·rename_i r' n hr hn;cases hr;rw[hn]at t B;obtain⟨t,_⟩:=iM t;obtain⟨B,_⟩:=iM B
  split at d
  ·rename_i hc;obtain⟨c1,c2,c3⟩:=hc;simp only[aa]at d;subst d;have Ay:(i.bytes:Int) * n<=281474976710656:=by
    rw[Q];have S:n.toNat * l<=140737488355328:=c2;have:((n.toNat * l:Nat):Int)<=140737488355328:=Int.ofNat_le.2 S;rw[Int.natCast_mul,Int.toNat_of_nonneg c1,Int.mul_comm]at this;omega
   have W:=run_make (P:=P) w T b i a hU hI hz .i64 .i64 n n c1 (Int.le_refl _) Ay (by omega);have p:fE w o a.cells.toList []:=HL _ _ G;have H:a.cells.size=k:=by rw[<- eU,fE.length _ p,N8]
   have nF:=HD H V n.toNat;have U:(execOp (fr f N).eval ⟨Z r,.makeSlice T x C,ty,pos,aft,gd⟩).run P w=.ok (.value (.slice (Z ⟨w.heap.size,0,O⟩) n.toNat n.toNat)) (w.alloc (.cells (aY n.toNat a.cells.toList).flatten.toArray b)):=by
    rw[nG]at W;rw[<- nF];simp[execOp,t,B,W]
   have R5:=Q6 p n.toNat;have BG:∀e∈aY n.toNat o,e.length=k:=λe d=>by rw[(List.mem_replicate.1 d).2];exact N8
   have m:((aY n.toNat a.cells.toList).flatten).length=n.toNat * k:=by rw[fy.length _ R5 BG];simp
   refine HJ U λw1 hs X hB=>?_;obtain⟨j,h2,h3,h4,h5⟩:=v.newRow (γ0:=γ) (dp:=I) X hB (n:=n.toNat) (c:=n.toNat) hs R5 (by rw[<- m,bo]) (by simp) (az _) (by simp[maxLen];omega) m V BG (λhf e d x q=>by
     have Y:=ti hf;rw[(List.mem_replicate.1 d).2]at q;simp only[dW,bz]at Y;exact Y x q) ⟨rfl,rfl,λ_=>az _,λ_ h=>by simp at h,λ_=>by simp,λ_ h=>⟨h,rfl⟩,λ_=>.inl rfl⟩ r
   exact h j _ w1 (h2.put r (.ref r) _ (by simp only[CR,h3];exact⟨trivial,_,_,_,rfl⟩)) ⟨kz v X _,λx _=>by rw[h4],λg=>h5 g,.put⟩
  ·cases d
 ·cases d
theorem akl(hi:Inv γ h0 io w0 s f w){T:TypeId}{x v:Operand}{a b:KX}{n:Nat}(hS:oR P T=Z n)(hx:ki N x a=I)(hv:ki N v b=I)(Q:lQ cf mf s O (.st n a b)=Z s')
  (h:∀γ' f' w',Inv γ' h0 io w0 s' f' w'->Tr O (eW s O (.st n a b)) γ w γ' w' f f'->K f' w'):ui P N ⟨O,.store T x v,ty,pos,aft,gd⟩ f w K:=by
 have rK:=ct hi hx;have hpv:=ct hi hv;have fin:∀(g o:Nat) (S:TypeId) (R:List Value),(fr f N).eval x=.pointer (Z ⟨g,o,O⟩)->kJ w g S R->((fr f N).eval v).cells.toList.length=n->o+n<=R.length->(∀q∈((fr f N).eval v).cells.toList,one q=I)->
   (execOp (fr f N).eval ⟨O,.store T x v,ty,pos,aft,gd⟩).run P w=.ok .skip (gF w g (.cells (cL R o ((fr f N).eval v).cells.toList).toArray S (0,0))):=by
  intro g o S R hp hB hl ho h1;have sv:=nN (P:=P) (o:=o) ((fr f N).eval v).cells.toList 0 w R hB (by omega) h1;simp only[dx]at sv;have nG:((fr f N).eval v).cells.size=n:=by rw[<- eU];exact hl
  simp[execOp,Instr.storeAt,hp,Instr.sureAddr,storeVar,run_sizeOf hS,nG,sv]
 have ahn:∀{R:List C} {B:List Value},fu γ w R B->R.all C.cell=I->∀q∈B,one q=I:=by
  intro R
  induction R with
  |nil=>intro B h _;simp only[fu]at h;simp[h]
  |cons c R ih=>
   intro B h hc;simp only[fu]at h;obtain⟨v,fC,rfl,h2,h3⟩:=h;simp only[cV,ai]at hc;intro q hu;rcases aI.1 hu with rfl|hu
   ·cases c with
    |d x=>simp only[CR]at h2;obtain⟨F,h4,_⟩:=h2;exact h4.qZ
    |nil k fl=>simp only[CR]at h2;rw[h2.1];rfl
    |ref r=>simp only[CR]at h2;obtain⟨_,A,n,c,rfl⟩:=h2;rfl
    |_=>simp[C.cell]at hc
   ·exact ih h3 hc.2 q hu
 simp only[lQ]at Q
 split at Q
 ·rename_i U o H;rw[H]at rK;simp only[CR]at rK
  split at Q
  ·rename_i R hl
   split at Q
   ·rename_i hc;obtain⟨c1,c2,c3⟩:=hc;simp only[aa]at Q;subst Q;obtain⟨S,B,h1,h2,h3⟩:=hi.bx U R hl;obtain⟨P7,_,_⟩:=hpv.cells c1;have hlen:=P7.length;refine JH (fin _ _ _ _ rK h1 (by rw[hlen];exact c2) (by rw[h2.length];exact c3) (ahn P7 c1)) ?_;have W:=GB.gF w (γ.β U) (cL B o ((fr f N).eval v).cells.toList).toArray S;have nD:uC γ (λo=>∃i∈[U],o=.box i\/o=.row i) w _:=mM hi W ⟨U,by simp,.inl h3⟩ (λj V=>by rw[hi.nS _ _ h3]at V;omega);have abC:Inv γ h0 io w0 {s with bx:=sa s.bx U } f w:=hi.sub (λ_ _ h=>h) (λd c h=>by
     simp only[eN]at h
     split at h
     ·cases h
     ·exact h) (λ_ _ h=>h)
    have h5:=abC.Pq (mM abC W (M:=λo=>o=.box U) h3 (λj V=>by rw[hi.nS _ _ h3]at V;omega)) (by simp) (λb H=>by cases H;simp[eN]) (λr hr=>by cases hr);have agd:∀{R:List C} {us:List Value},fu γ w R us->fu γ (gF w (γ.β U) (.cells (cL B o ((fr f N).eval v).cells.toList).toArray S (0,0))) R us:=λh=>h.mono (γ':=γ) (λ_=>az _) nD.cell rfl rfl _;have h6:=h5.gl (b:=U) (h1.iB S _) h3 (agd (h2.xt o P7));have e:({s with bx:=sa s.bx U }:St).gl U (gU R o (gj s b).cells)=s.gl U (gU R o (gj s b).cells):=by
     have:sa (sa s.bx U) U=sa s.bx U:=by simp[sa,nO]
     simp[St.gl,this]
    rw[e]at h6;refine h γ f _ h6 ⟨?_,λ_ _=>rfl,λ_=>az _,.skip⟩;simp only[eW,H];exact nD
   ·cases Q
  ·cases Q
 ·rename_i r k i o H;rw[H]at rK;simp only[CR]at rK;obtain⟨g,p,m,cc,wk,hp⟩:=rK
  split at Q
  ·rename_i ds dp s1 hem;obtain⟨ud,qL⟩:=uU hem;obtain⟨P7,_,_⟩:=hpv.cells ud;obtain⟨oT,G1,i1,r1,e1⟩:=yK _ hi P7 hem
   split at Q
   ·rename_i row hl
    split at Q
    ·rename_i e IN
     split at Q
     ·rename_i hc;obtain⟨rfl,yo,qK,Lv,hon,ti,hdd⟩:=hc;simp only[aa]at Q;subst Q;rw[eh]at IN;obtain⟨my,A,n',c',i2,b2,zZ,nX,o2,l2,q1,q2,q3,q4,q5,q6,q7,q8⟩:=i1.tM hl;rw[e1.sl,wk]at q1;simp only[Value.slice.injEq]at q1;obtain⟨rfl,rfl,rfl⟩:=q1;rcases q8 with ⟨q8,_⟩|⟨g',p',X,G,a1,a2,a3,a4,a5,a6,a7,a8,a9,tZ,TE,a12⟩
      ·cases q8
      ·simp only[aa,Addr.mk.injEq,and_true]at a1;obtain⟨rfl,rfl⟩:=a1;obtain⟨rfl,S,B,hB,u9⟩:=tZ qK;have BH:oT.h g=0:=a9 yo;have acz:=(bh.1 IN).1;have AA:=q6 e (dS IN);have hul:=P7.length;have hus:((fr f N).eval v).cells.toList.length=n:=by rw[hul,<- qL];exact Lv
       have hik:i * row.k+row.k<=row.es.length * row.k:=by rw[<- j5];exact fM _ acz
       have hck:row.es.length * row.k<=cc * row.k:=fM _ (by omega);refine JH (fin _ _ _ _ hp hB hus (by omega) (ahn P7 ud)) ?_;have W:=GB.gF w g (cL B (0+i * row.k+o) ((fr f N).eval v).cells.toList).toArray S;have Hj:γ.ω g=.row r:=by
        rcases e1.own g with h|h|h
        ·rw[<- h];exact a3
        ·rw[a3]at h;cases h
        ·rw[a3]at h;cases h
       have aka:γ.h g=0:=by have:=e1.h g;omega
       have nD:uC γ (λo=>∃i∈r::rowsOf (gj s b).cells,o=.box i\/o=.row i) w _:=mM hi W ⟨r,by simp,.inr Hj⟩ (λj V=>by rw[aka]at V;omega);have h5:=i2.Pq (mM i2 W (M:=λo=>o=.ej) a4 (λj V=>by rw[nX,BH]at V;omega)) (by simp) (λb H=>by cases H) (λr hr=>by cases hr);have e0:row.es=row.es.take i++(e::row.es.drop (i+1)):=by
        rw[<- (bh.1 IN).2,List.getElem_cons_drop,bD]
       have a6':=a6;rw[e0]at a6';obtain⟨x1,x2,Ga,Gb,ex,eG,ra,rb⟩:=fy.gk _ a6';simp only[fy]at rb;obtain⟨xe,x3,Ge,Gc,ex2,eG2,re,rc⟩:=rb;subst ex2 eG2;have DL:x1.length=i * row.k:=by
        rw[fy.length _ ra (λx hx=>q6 x (cn hx)),bj,cI (by omega)]
       have hle:xe.length=row.k:=by rw[fE.length _ re];exact AA
       have e2:e=e.take o++((e.drop o).take n++e.drop (o+n)):=by
        rw[<- oy,bD,bD]
       have re':=re;rw[e2]at re';obtain⟨xa,xr,Gp,Gr,ex3,eG3,rp,rr⟩:=fE.gk _ re';obtain⟨xm,xc,Gm,Gs,ex4,eG4,rm,rs⟩:=fE.gk _ rr;subst ex3 eG3 ex4 eG4;have hla:xa.length=o:=by rw[fE.length _ rp,bj,AA,cI (by omega)]
       have hlm:xm.length=n:=by rw[fE.length _ rm,bj,dK,AA,cI (by omega)]
       have fW:fE w (gU e o ds) (xa++((fr f N).eval v).cells.toList++xc) (Gp++G1++Gs):=by
        unfold gU;rw[Lv];exact fE.append _ (fE.append _ rp r1) rs
       have Ca:X.length<=B.length:=by rw[fy.length _ a6 q6,u9];exact hck
       have ZC:B=X++B.drop X.length:=by
        have:B.take X.length=X:=by
         apply eE
         intro j;rw[cQ];by_cases V:j < X.length
         ·rw[if_pos V];have h7:=a7 j X[j] (by simp[V]);rw[bu,hB.cell]at h7;rw[h7];simp[V]
         ·rw[if_neg V,jy (by omega)]
        rw[<- bD X.length B,this];simp
       have acH:cL B (0+i * row.k+o) ((fr f N).eval v).cells.toList=(x1++((xa++((fr f N).eval v).cells.toList++xc)++x3))++B.drop X.length:=by
        have e5:B=(x1++xa)++(xm++(xc++x3++B.drop X.length)):=by
         rw[ex]at ZC;rw[ex]
         simpa using ZC
        have h7:=OK (x1++xa) xm (xc++x3++B.drop X.length) ((fr f N).eval v).cells.toList (by omega);rw[<- e5]at h7;rw[show 0+i * row.k+o=(x1++xa).length from by simp[DL,hla],h7];simp
       have acA:iH (gF w g (.cells (cL B (0+i * row.k+o) ((fr f N).eval v).cells.toList).toArray S (0,0))) g 0 (x1++((xa++((fr f N).eval v).cells.toList++xc)++x3)):=by
        have h7:=(hB.iB S (cL B (0+i * row.k+o) ((fr f N).eval v).cells.toList)).Oc;intro j q hu;refine h7 j q ?_;rw[acH,dd (bh.1 hu).1];exact hu
       have hold:∀t∈Ga++((Gp++Gs)++Gc),t∈G:=by
        intro t H;rw[eG];simp only[aT]at H ⊢
        grind
       have wU:∀t∈Ga++((Gp++G1++Gs)++Gc),t∈G\/t∈G1:=by
        intro t H;simp only[aT]at H;by_cases Y:t∈G1
        ·exact .inr Y
        ·refine .inl (hold t ?_);simp only[aT]
         grind
       have N4:∀t∈Ga++((Gp++G1++Gs)++Gc),t.2<=my.h t.1\/(yu my (gF w g (.cells (cL B (0+i * row.k+o) ((fr f N).eval v).cells.toList).toArray S (0,0))) t.1/\t.1≠g):=by
        intro t H;rcases wU t H with Y|Y
        ·rcases TE t Y with L|⟨L,Km⟩
         ·exact .inl (by rw[nX];exact L)
         ·exact .inr ⟨⟨L.1,L.2.1,by rw[gu];exact L.2.2.1,λj=>by rw[World.frozen?_of_block (w:=w) (W.block _ Km)];exact L.2.2.2 j⟩,Km⟩
        ·rcases e1.some_ t Y with L|L
         ·exact .inl (by rw[nX];exact L)
         ·have Km:t.1≠g:=λe=>by have:=L.1;rw[e,a3]at this;cases this
          exact .inr ⟨⟨by rw[o2 _ (by rw[L.1];simp)];exact L.1,by rw[nX];exact L.2.1,by rw[gu];exact L.2.2.1,λj=>by rw[World.frozen?_of_block (w:=w) (W.block _ Km)];exact L.2.2.2 j⟩,Km⟩
       have R6:fy (gF w g (.cells (cL B (0+i * row.k+o) ((fr f N).eval v).cells.toList).toArray S (0,0))) (row.es.set i (gU e o ds)) (x1++((xa++((fr f N).eval v).cells.toList++xc)++x3)) (Ga++((Gp++G1++Gs)++Gc)):=by
        have h7:fy w (row.es.set i (gU e o ds)) (x1++((xa++((fr f N).eval v).cells.toList++xc)++x3)) (Ga++((Gp++G1++Gs)++Gc)):=by
         rw[List.set_eq_take_append_cons_drop,if_pos acz];refine fy.append _ ra ?_;simp only[fy];exact⟨_,_,_,_,rfl,rfl,fW,rc⟩
        refine h7.dL _ λt H j V=>?_;by_cases Y:t.1=g
        ·rcases N4 t H with L|L
         ·rw[Y,nX,BH]at L;omega
         ·exact absurd Y L.2
        ·exact World.cell?_of_block (w:=w) (W.block _ Y)
       obtain⟨Rj,h6,h7,Y,L,_,_⟩:=h5.vY (r:=r) (x:={row with es:=row.es.set i (gU e o ds) }) (n:=m) (c:=cc) (g:=g) (o:=0) (by simp[q2]) q3 q4 q5
        (λy hy=>by
         rcases gW hy with h|h
         ·exact q6 y h
         ·rw[h];unfold gU;simp[AA];omega)
        (λhf y hy=>by
         rcases gW hy with h|h
         ·exact q7 hf y h
         ·rw[h];intro l hz;unfold gU at hz;simp only[aT]at hz;rcases hz with (hz|hz)|hz
          ·exact q7 hf e (dS IN) l (cn hz)
          ·have:=ti hf;simp only[dW,bz]at this;exact this l hz
          ·exact q7 hf e (dS IN) l (ff hz))
        (by rw[gu];exact a2) (.inl a4) (by have:=(i2.own g (by rw[a4];simp)).2;exact this) ⟨by rw[gu];omega,W.fz⟩ R6 acA (by rw[nX,BH];omega) (λ_=>by rw[nX,BH]) (λ_=>⟨rfl,S,_,hB.iB S _,by rw[jO (by omega)];exact u9⟩)
        N4
        (λhd=>by
         have hdp:dp=I:=by
          have hd':row.deep=I:=hd
          simpa [hd'] using hdd
         obtain⟨n1,l1⟩:=e1.deep hdp;obtain⟨n2,Gg⟩:=a12 hd;refine⟨?_,λt H=>?_⟩
         ·have abB:∀y∈G.map cr,y∉G1.map cr:=by
           intro y hy hy1;obtain⟨t,H,rfl⟩:=bZ.1 hy;obtain⟨YQ,Ay,e8⟩:=bZ.1 hy1;have u1:=(Gg t H).2;have u2:=(l1 YQ Ay).1.1;rw[e8,u1]at u2;cases u2
          have hg1:g∉G1.map cr:=by
           intro hy1;obtain⟨YQ,Ay,e8⟩:=bZ.1 hy1;have u2:=(l1 YQ Ay).1.1;rw[e8,a3]at u2;cases u2
          rw[eG]at n2 abB;exact Om n2 n1 abB hg1
         ·rcases N4 t H with Km|Km
          ·rcases wU t H with RQ|RQ
           ·have:=(Gg t RQ).1;rcases TE t RQ with jQ|jQ
            ·refine⟨this.1,this.2.1,?_⟩;have ic:t.1≠g:=λe9=>by
              have:=(cx.1 n2).1;exact this (by rw[<- e9];exact cH RQ)
             exact⟨by rw[gu];exact this.2.2.1,λj=>by rw[World.frozen?_of_block (w:=w) (W.block _ ic)];exact this.2.2.2 j⟩
            ·exact⟨this.1,this.2.1,by rw[gu];exact this.2.2.1,λj=>by rw[World.frozen?_of_block (w:=w) (W.block _ jQ.2)];exact this.2.2.2 j⟩
           ·have jQ:=(l1 t RQ).1;have ic:t.1≠g:=λe=>by have:=jQ.1;rw[e,a3]at this;cases this
            exact⟨by rw[o2 _ (by rw[jQ.1];simp)];exact jQ.1,by rw[nX];exact jQ.2.1,by rw[gu];exact jQ.2.2.1,λj=>by rw[World.frozen?_of_block (w:=w) (W.block _ ic)];exact jQ.2.2.2 j⟩
          ·exact Km.1)
        (by rw[zZ,e1.sl];exact wk)
       have e6:(s1.cY r).setRow r {row with es:=row.es.set i (gU e o ds) }=s1.setRow r {row with es:=row.es.set i (gU e o ds) }:=by
        have:sa (sa s1.rw r) r=sa s1.rw r:=by simp[sa,nO]
        simp[St.setRow,St.cY,this]
       rw[e6]at h6;refine h Rj f _ h6 ⟨?_,λ_ _=>by rw[Y,b2,e1.β],λy=>by have:=L y;rw[nX]at this;exact aH (e1.h y) this,.skip⟩;simp only[eW,H];exact nD
     ·cases Q
    ·cases Q
   ·cases Q
  ·cases Q
 ·cases Q
end
end
section
open Go.RowKit
section
variable {P:Program} {γ:Gh} {h0:Nat->Nat} {io:M Nat} {w0:World} {s s':St} {f:Fm} {w:World} {N:Nat} {ty:TypeId} {pos:String} {aft:Array Edge} {gd:u (Nat×Bool)} {K:Fm->World->Prop}
 {cf:Nat->M A->u (M A×M A)} {mf:Nat->Bool->M D->Int->u (M D×Int)}
theorem C3(Q:Inv γ h0 io w0 s f w){c:C}{a:Value}(r:CR γ w c a){k:Nat}{fl:Bool}{es:M (M D)}{dp:Bool}{V:St}(i:nu s k fl c=Z (es,dp,V)) :
  ∃p G l,Inv p h0 io w0 V f w/\fy w es l G/\Emb γ w dp G p/\(∀e∈es,e.length=k)/\(fl=I->flat es)/\((es.length=0/\∃A c,a=.slice A 0 c)\/∃b o c,a=.slice (Z ⟨b,o,O⟩) es.length c/\iH w b o l):=by
 cases c with
 |d x=>
  cases x with
  |list k' uc jK=>
   simp only[nu]at i
   split at i
   ·rename_i T;obtain⟨rfl,rfl⟩:=T;simp only[aa,aC]at i;obtain⟨rfl,rfl,rfl⟩:=i;simp only[CR,Rp]at r;obtain⟨F,⟨A,n,c,q1,q2,q3,q4,y,q6,L,m⟩,kZ⟩:=r;rcases m with ⟨m,rfl⟩|⟨h1,b,o,R,G,rfl,rfl,a2,a3⟩
    ·have:jK=[]:=cq (by omega);subst this;exact⟨γ,[],[],Q,by simp[fy],⟨rfl,rfl,λ_=>az _,λ_ h=>by simp at h,λ_=>by simp,λ_ h=>⟨h,rfl⟩,λ_=>.inl rfl⟩,L,y,.inl ⟨rfl,A,c,by rw[q1,m]⟩⟩
    ·refine⟨γ,G,R,Q,a2,⟨rfl,rfl,λ_=>az _,λv t=>.inl (kZ v (by simp[t])),λj=>?_,λ_ h=>⟨h,rfl⟩,λ_=>.inl rfl⟩,L,y,.inr ⟨b,o,c,by rw[q1,q2],a3⟩⟩;have:G=[]:=a2.plain (y j);subst this;simp
   ·cases i
  |_=>simp[nu]at i
 |nil k' uc=>
  simp only[nu,aa,aC]at i;obtain⟨rfl,rfl,rfl⟩:=i;simp only[CR]at r;exact⟨γ,[],[],Q,by simp[fy],⟨rfl,rfl,λ_=>az _,λ_ h=>by simp at h,λ_=>by simp,λ_ h=>⟨h,rfl⟩,λ_=>.inl rfl⟩,λ_ h=>by simp at h,λ_=>jC,.inl ⟨rfl,O,0,r.1⟩⟩
 |ref q=>
  simp only[nu]at i
  split at i
  ·rename_i x hx
   split at i
   ·rename_i T;obtain⟨rfl,rfl⟩:=T;simp only[aa,aC]at i;obtain⟨rfl,rfl,rfl⟩:=i;obtain⟨p,G1,Y,b1,B,X,W,S,d1,o1,k1,U⟩:=Q.take hx;simp only[CR]at r;simp only[Rp]at W;obtain⟨A,n,c,q1,q2,q3,q4,y,q6,L,m⟩:=W;have H:∀g,γ.ω g=.ej->p.ω g=.ej/\p.h g=γ.h g:=λg hg=>by
     have:=k1 g (by rw[hg];simp);exact⟨this.1.trans hg,this.2⟩
    rcases m with ⟨m,rfl⟩|⟨h1,b,o,R,G,rfl,rfl,a2,a3⟩
    ·have:x.es=[]:=cq (by omega);rw[this];exact⟨p,[],[],Y,by simp[fy],⟨b1,B,X,λ_ h=>by simp at h,λ_=>by simp,H,U⟩,λ_ h=>by simp at h,λ_=>jC,.inl ⟨rfl,A,c,by rw[r.1,q1,m]⟩⟩
    ·refine⟨p,G,R,Y,a2,⟨b1,B,X,λv t=>?_,λj=>?_,H,U⟩,L,y,.inr ⟨b,o,c,by rw[r.1,q1,q2],a3⟩⟩
     ·cases hd:(x.deep && !x.fz) with
      |true=>exact .inr ((d1 hd).2 v (by simp[t]))
      |false=>exact .inl (S hd v (by simp[t]))
     ·rw[df]at j;rcases j with j|j
      ·obtain⟨n1,l1⟩:=d1 j;refine⟨(cx.1 n1).2,λv t=>⟨l1 v (by simp[t]),?_⟩⟩;rcases o1 v (by simp[t]) with h|h
       ·rw[h];simp
       ·simp[h]at j
      ·have:G=[]:=a2.plain (y j);subst this;simp
   ·cases i
  ·cases i
 |_=>simp[nu]at i
theorem Hz{a:Type}(l:M (Nat×a))(r:Nat):sa (sa l r) r=sa l r:=by simp[sa,nO]
theorem jA(s:St)(r:Nat)(x:Row):(s.cY r).newRow r x=s.newRow r x:=by
 simp[St.newRow,St.setRow,St.cY,St.kill,Hz]
theorem ag0(hi:Inv γ h0 io w0 s f w){T p:TypeId}{k by_:Nat}{fl:Bool}{x y:Operand}{a b:KX}{d:Nat}{i:TypeInfo}{l:Value}(hU:P.underlying T=Z (.slice p))(hI:P.info? p=Z i)(hz:i.zero=Z l)(nG:i.size=k)(hby:i.bytes=by_)(Kq:l.cells.size=k)(pE:0 < k)
  (hx:ki N x a=I) (hy:ki N y b=I) (F:lQ cf mf s (Z d) (.app k by_ fl a b)=Z s') (h:∀C f' R,Inv C h0 io w0 s' f' R->Tr (Z d) (eW s (Z d) (.app k by_ fl a b)) γ w C R f f'->K f' R) :
  ui P N ⟨Z d,.call {callee:=.builtin .append,args:=#[x,y],argTypes:=#[T,T] },ty,pos,aft,gd⟩ f w K:=by
 have rK:=ct hi hx;have Yz:=ct hi hy;simp only[lQ]at F
 split at F
 ·cases F
 ·rename_i es dp s1 tj;obtain⟨oT,G2,q,i1,r2,Q,hk2,hf2,V⟩:=C3 hi Yz tj;have RZ:q.length=es.length * k:=fy.length es r2 hk2;have yq:=r2.qZ;have mF:∀{v' R},(Builtin.append_ #[T,T] ty #[(fr f N).eval x,(fr f N).eval y]).run P w=.ok v' R->(execOp (fr f N).eval ⟨Z d,.call {callee:=.builtin .append,args:=#[x,y],argTypes:=#[T,T] },ty,pos,aft,gd⟩).run P w=.ok (.value v') R:=by
   intro v' R hr;simp[execOp,resolve,invoke,builtin,hr]
  split at F
  ·
   rename_i k' uc IU;rw[IU]at rK;simp only[CR]at rK
   split at F
   ·rename_i hc;obtain⟨rfl,rfl,c3,c4⟩:=hc;simp only[aa]at F;subst F;obtain⟨v',R,hr,B9⟩:=JS (P:=P) (w:=w) (ty:=ty) (k:=k') (by_:=by_) hU hI hz nG hby Kq pE (v:=(fr f N).eval x) (n:=0) (xs:=[]) (by simp) (.inl ⟨rK.1,rfl⟩) (u:=(fr f N).eval y) (m:=es.length) RZ V yq (by omega) (by simpa using c3);refine vE (mF hr) ?_;rcases B9 with ⟨Y,rfl,rfl⟩|⟨g,U,T',L,Y,_⟩|⟨U,cs,rfl,h2,h3,h4,W,h6,h7,h8⟩
    ·have xk:es=[]:=cq Y;subst xk;have hR:pz oT.h R ⟨[],k',uc,dp,I,J⟩ ((fr f N).eval x) []:=⟨O,0,0,rK.1,rfl,az _,by simp[maxLen],pE,λ_ h=>by simp at h,λ_=>jC,.inl ⟨rfl,rfl,rfl⟩⟩
     obtain⟨C,S,j2,j3,j4,_⟩:=i1.uG (r:=d) hR (by simp) (λ_ h=>by simp at h);exact h C _ R (S.put d (.ref d) _ (by simp only[CR,j2];exact⟨trivial,O,0,0,rK.1⟩)) ⟨uC.refl _ _ _,λx _=>by rw[j3,Q.β],λg=>by rw[j4];exact Q.h g,.put⟩
    ·rw[rK.1]at Y;cases Y
    ·simp only[bu,av]at h2 h8 ⊢;obtain⟨C,S,j2,j3,j4⟩:=i1.newRow W h6 (n:=es.length) (c:=U) h4 r2 h8 rfl h2 h3 h7 pE hk2 hf2 Q d;exact h C _ R (S.put d (.ref d) _ (by simp only[CR,j2];exact⟨trivial,_,_,_,rfl⟩)) ⟨kz hi W _,λx _=>by rw[j3,Q.β],λg=>aH (Q.h g) (j4 g),.put⟩
   ·cases F
  ·rename_i r IU;rw[IU]at rK;simp only[CR]at rK
   split at F
   ·rename_i row hl
    split at F
    ·rename_i hc;obtain⟨rfl,rfl,qK,c3,c4⟩:=hc;simp only[aa]at F;subst F;obtain⟨my,A,n,c,i2,b2,zZ,X,o2,l2,q1,q2,q3,q4,q5,q6,q7,q8⟩:=i1.tM hl;rw[Q.sl]at q1;have qj:(fr f N).eval x=.slice A n c:=rK.1.trans q1;have hrX:r∈eW s (Z d) (.app row.k by_ row.fl a b):=by simp[eW,IU,rowsOf]
     have BG:∀e∈row.es++es,e.length=row.k:=λe F=>by
      rcases aT.1 F with F|F
      ·exact q6 e F
      ·exact hk2 e F
     have Zt:row.fl=I->flat (row.es++es):=λhf e F=>by
      rcases aT.1 F with F|F
      ·exact q7 hf e F
      ·exact hf2 hf e F
     have Od:∀g,yu oT w g->yu my w g:=λg hg=>⟨by rw[o2 _ (by rw[hg.1];simp)];exact hg.1,by rw[X];exact hg.2.1,hg.2.2⟩
     rcases q8 with ⟨rfl,rfl⟩|⟨g,o,xs,G,rfl,a2,a3,a4,a5,a6,a7,a8,a9,tZ,TE,a12⟩
     ·
      have DN:n=0:=by omega
      subst DN;have hre:row.es=[]:=cq q2.symm;obtain⟨v',R,hr,B9⟩:=JS (P:=P) (w:=w) (ty:=ty) (k:=row.k) (by_:=by_) hU hI hz nG hby Kq pE (v:=(fr f N).eval x) (n:=0) (xs:=[]) (by simp) (.inl ⟨qj,rfl⟩) (u:=(fr f N).eval y) (m:=es.length) RZ V yq (by omega) (by rw[hre]at c3;simpa using c3);refine vE (mF hr) ?_;rcases B9 with ⟨Y,rfl,rfl⟩|⟨g,U,T',L,Y,_⟩|⟨U,cs,rfl,h2,h3,h4,W,h6,h7,h8⟩
      ·have xk:es=[]:=cq Y;subst xk;have hR:pz my.h R {row with es:=row.es++[],deep:=row.deep && dp } ((fr f N).eval x) []:=⟨O,0,0,qj,by simp[hre],az _,by simp[maxLen],q5,BG,Zt,.inl ⟨rfl,rfl,rfl⟩⟩
       obtain⟨C,S,j2,j3,j4,_⟩:=i2.uG (r:=r) hR (by simp) (λ_ h=>by simp at h);rw[jA]at S;exact h C _ R (S.put d (.ref r) _ (by simp only[CR,j2];exact⟨trivial,O,0,0,qj⟩)) ⟨uC.refl _ _ _,λx _=>by rw[j3,b2,Q.β],λg=>by rw[j4,X];exact Q.h g,.put⟩
      ·rw[qj]at Y;cases Y
      ·simp only[bu,av]at h2 h8 ⊢;have i3:=i2.Co W;have iy:iH R w.heap.size 0 q:=by
        intro j u V;rw[bu,h6.cell];rw[<- h8,cQ]at V
        split at V
        ·exact V
        ·cases V
       have ed:=fy.lt es r2;obtain⟨C,S,j2,j3,j4,_⟩:=i3.qc (r:=r) (x:={row with es:=row.es++es,deep:=row.deep && dp }) (n:=es.length) (c:=U) (g:=w.heap.size) (o:=0) (by simp[hre]) h2 h3 q5 BG Zt (by omega) (.inr (i2.rX (az _))) (.inl hi.size) ⟨by omega,W.Gt _ (az _)⟩ (by simp only[hre,av];exact r2.Co W) iy (by rw[i2.fW _ (az _)];omega) (λ_=>i2.fW _ (az _)) (λ_=>⟨rfl,p,cs,h6,h7⟩)
        (λt B=>by
         rcases Q.some_ t B with H|H
         ·exact .inl (by rw[X];exact H)
         ·have:=Od _ H;exact .inr ⟨⟨this.1,this.2.1,(kz hi W (λ_=>False)).fX _ this.2.2⟩,by have:=ed t B;omega⟩)
        (λhd=>by
         have hdp:dp=I:=by
          have hd':(row.deep && dp)=I:=hd;simp at hd';exact hd'.2
         obtain⟨n1,l1⟩:=Q.deep hdp;refine⟨cx.2 ⟨λhm=>?_,n1⟩,λt B=>?_⟩
         ·obtain⟨t,B,e⟩:=bZ.1 hm;have:=ed t B;omega
         ·have:=Od _ (l1 t B).1;exact⟨this.1,this.2.1,(kz hi W (λ_=>False)).fX _ this.2.2⟩)
       rw[jA]at S;exact h C _ R (S.put d (.ref r) _ (by simp only[CR,j2];exact⟨trivial,_,_,_,rfl⟩)) ⟨kz hi W _,λx _=>by rw[j3,b2,Q.β],λg=>by have:=j4 g;rw[X]at this;exact aH (Q.h g) this,.put⟩
     ·obtain⟨rfl,T',vs,hB,u9⟩:=tZ qK;have Ca:xs.length=n * row.k:=by rw[fy.length _ a6 q6,q2]
      have TS:vs.take (n * row.k)=xs:=by
       rw[<- Ca]
       apply eE
       intro j;rw[cQ];by_cases hj:j < xs.length
       ·rw[if_pos hj];have h7:=a7 j xs[j] (by simp[hj]);rw[bu,hB.cell]at h7;rw[h7];simp[hj]
       ·rw[if_neg hj,jy (by omega)]
      have al0:=fy.lt _ a6;have agc:=fy.lt _ r2;obtain⟨v',R,hr,B9⟩:=JS (P:=P) (w:=w) (ty:=ty) (k:=row.k) (by_:=by_) hU hI hz nG hby Kq pE (v:=(fr f N).eval x) (n:=n) (xs:=xs) Ca (.inr ⟨g,c,T',vs,qj,hB,q3,q4,u9,TS⟩) (u:=(fr f N).eval y) (m:=es.length) RZ V yq (by omega) (by rw[q2];exact c3);have Hj:γ.ω g=.row r:=by
       rcases Q.own g with h|h|h
       ·rw[<- h];exact a3
       ·rw[a3]at h;cases h
       ·rw[a3]at h;cases h
      have ZE:fy w (row.es++es) (xs++q) (G++G2):=fy.append _ a6 r2;have xq:∀t∈G++G2,t.2<=my.h t.1\/(yu my w t.1/\t.1≠g):=by
       intro t B;rcases aT.1 B with B|B
       ·rw[X];exact TE t B
       ·rcases Q.some_ t B with H|H
        ·exact .inl (by rw[X];exact H)
        ·exact .inr ⟨Od _ H,λe=>by have:=H.1;rw[e,a3]at this;cases this⟩
      have yG:(row.deep && dp)=I->(g::(G++G2).map cr).Nodup/\∀t∈G++G2,yu my w t.1:=by
       intro hd;rw[ai]at hd;obtain⟨n1,l1⟩:=Q.deep hd.2;obtain⟨n2,Gg⟩:=a12 hd.1;refine⟨?_,λt B=>?_⟩
       ·rw[cp,<- au,bH];refine⟨n2,n1,?_⟩;intro y hy y' Kp e;subst e;obtain⟨YQ,Ay,e8⟩:=bZ.1 Kp;have u2:=(l1 YQ Ay).1.1;rcases aI.1 hy with rfl|hy
        ·rw[e8,a3]at u2;cases u2
        ·obtain⟨t,B,rfl⟩:=bZ.1 hy;rw[e8,(Gg t B).2]at u2;cases u2
       ·rcases aT.1 B with B|B
        ·exact (Gg t B).1
        ·exact Od _ (l1 t B).1
      refine vE (mF hr) ?_;rcases B9 with ⟨Y,rfl,rfl⟩|⟨g',U,Kz,L,Y,h2,h3,h4,W,h6,h7,rfl⟩|⟨U,cs,rfl,h2,h3,h4,W,h6,h7,h8⟩
      ·have xk:es=[]:=cq Y;subst xk;simp only[fy]at r2;obtain⟨rfl,rfl⟩:=r2;simp only[aJ]at ZE xq yG BG Zt;obtain⟨C,S,j2,j3,j4,_⟩:=i2.qc (r:=r) (x:={row with es:=row.es++[],deep:=row.deep && dp }) (n:=n) (c:=c) (g:=g) (o:=0) (by simp[q2]) q3 q4 q5 (by simpa using BG) (by simpa using Zt) a2 (.inl a4) (i2.own g (by rw[a4];simp)).2 a5 (by simpa using ZE) a7 (by rw[X];exact a8) (λhf=>by rw[X];exact a9 hf) (λ_=>⟨rfl,T',vs,hB,u9⟩) xq yG;rw[jA]at S;exact h C _ R (S.put d (.ref r) _ (by simp only[CR,j2,qj];exact⟨trivial,_,_,_,rfl⟩)) ⟨uC.refl _ _ _,λx _=>by rw[j3,b2,Q.β],λg=>by have:=j4 g;rw[X]at this;exact aH (Q.h g) this,.put⟩
      ·rw[qj]at Y;simp only[Value.slice.injEq,aa,Addr.mk.injEq,and_true]at Y;obtain⟨rfl,_,rfl⟩:=Y;subst h3;have P7:L=vs:=by
        unfold kJ at h2 hB;rw[hB]at h2;simp only[aa,Obj.cells.injEq,and_true]at h2;have:=h2.1
        simpa using this.symm
       subst P7;have lH:=GB.gF w g (cL L (n * row.k) q).toArray Kz;have AB:n * row.k+q.length<=L.length:=by rw[RZ,u9,<- ll];exact fM _ h4
       have N0:∀j,j < n * row.k->(gF w g (.cells (cL L (n * row.k) q).toArray Kz (0,0))).cell? ⟨g,j,O⟩=w.cell? ⟨g,j,O⟩:=by
        intro j hj;rw[(hB.iB Kz (cL L (n * row.k) q)).cell,hB.cell];unfold cL;rw[bB,dd (by simp;omega),cQ,if_pos hj]
       have i3:=i2.Pq (mM i2 lH (M:=λo=>o=.ej) a4 (λj hj=>N0 j (by rw[X]at hj;omega))) (by simp) (λb B=>by cases B) (λr hr=>by cases hr);have nD:uC γ (λo=>∃i∈eW s (Z d) (.app row.k by_ row.fl a b),o=.box i\/o=.row i) w _:=mM hi lH ⟨r,hrX,.inr Hj⟩ (λj hj=>N0 j (by have:=Q.h g;omega));have acD:fy (gF w g (.cells (cL L (n * row.k) q).toArray Kz (0,0))) (row.es++es) (xs++q) (G++G2):=by
        refine ZE.dL _ λt B j hj=>?_;by_cases h8:t.1=g
        ·rw[h8];rcases xq t B with H|H
         ·rw[h8,X]at H;exact N0 j (by omega)
         ·exact absurd h8 H.2
        ·exact World.cell?_of_block (w:=w) (lH.block _ h8)
       have iy:iH (gF w g (.cells (cL L (n * row.k) q).toArray Kz (0,0))) g 0 (xs++q):=by
        have H:=(hB.iB Kz (cL L (n * row.k) q)).Oc;intro j u V;refine H j u ?_;have e5:cL L (n * row.k) q=(xs++q)++L.drop (n * row.k+q.length):=by unfold cL;rw[TS]
        rw[e5,dd (bh.1 V).1];exact V
       have B0:∀y,oG w y->oG (gF w g (.cells (cL L (n * row.k) q).toArray Kz (0,0))) y:=nD.fX;obtain⟨C,S,j2,j3,j4,_⟩:=i3.qc (r:=r) (x:={row with es:=row.es++es,deep:=row.deep && dp }) (n:=n+es.length) (c:=c) (g:=g) (o:=0) (by simp[q2]) h4 q4 q5 BG Zt (by rw[gu];exact a2) (.inl a4) (i2.own g (by rw[a4];simp)).2 ⟨by rw[gu];omega,lH.fz⟩ acD iy (by rw[X];exact aH a8 (Nat.add_le_add_left (fM row.k (show n<=n+es.length by omega)) 0)) (λhf=>by rw[X];exact a9 hf) (λ_=>⟨rfl,Kz,_,hB.iB Kz _,by rw[jO AB];exact u9⟩)
        (λt B=>by
         rcases xq t B with H|H
         ·exact .inl H
         ·exact .inr ⟨⟨H.1.1,H.1.2.1,B0 _ H.1.2.2⟩,H.2⟩)
        (λhd=>⟨(yG hd).1,λt B=>by have:=(yG hd).2 t B;exact⟨this.1,this.2.1,B0 _ this.2.2⟩⟩)
       rw[jA]at S;exact h C _ _ (S.put d (.ref r) _ (by simp only[CR,j2];exact⟨trivial,_,_,_,rfl⟩)) ⟨nD,λx _=>by rw[j3,b2,Q.β],λg=>by have:=j4 g;rw[X]at this;exact aH (Q.h g) this,.put⟩
      ·have i3:=i2.Co W;have iy:iH R w.heap.size 0 (xs++q):=by
        intro j u V;rw[bu,h6.cell];rw[<- h8,cQ]at V
        split at V
        ·exact V
        ·cases V
       have ed:∀t∈G++G2,t.1 < w.heap.size:=fy.lt _ ZE;have B0:=(kz hi W (λ_=>False)).fX;obtain⟨C,S,j2,j3,j4,_⟩:=i3.qc (r:=r) (x:={row with es:=row.es++es,deep:=row.deep && dp }) (n:=n+es.length) (c:=U) (g:=w.heap.size) (o:=0) (by simp[q2]) h2 h3 q5 BG Zt (by omega) (.inr (i2.rX (az _))) (.inl hi.size) ⟨by omega,W.Gt _ (az _)⟩ (ZE.Co W) iy (by rw[i2.fW _ (az _)];omega) (λ_=>i2.fW _ (az _)) (λ_=>⟨rfl,p,cs,h6,h7⟩)
        (λt B=>by
         rcases xq t B with H|H
         ·exact .inl H
         ·exact .inr ⟨⟨H.1.1,H.1.2.1,B0 _ H.1.2.2⟩,by have:=ed t B;omega⟩)
        (λhd=>by
         refine⟨cx.2 ⟨λhm=>?_,(cx.1 (yG hd).1).2⟩,λt B=>by have:=(yG hd).2 t B;exact⟨this.1,this.2.1,B0 _ this.2.2⟩⟩;obtain⟨t,B,e⟩:=bZ.1 hm;have:=ed t B;omega)
       rw[jA]at S;exact h C _ R (S.put d (.ref r) _ (by simp only[CR,j2];exact⟨trivial,_,_,_,rfl⟩)) ⟨kz hi W _,λx _=>by rw[j3,b2,Q.β],λg=>by have:=j4 g;rw[X]at this;exact aH (Q.h g) this,.put⟩
    ·cases F
   ·cases F
  ·cases F
theorem ag3(F:Inv γ h0 io w0 s f w){T p:TypeId}{k:Nat}{x:Operand}{lo qF:u Operand}{a:KX}{b c:u KX}{d:Nat}(hU:P.underlying T=Z (.slice p))(hz:oR P p=Z k)
  (hx:ki N x a=I) (M8:EN N lo b=I) (R:EN N qF c=I) (q:lQ cf mf s (Z d) (.cut k a b c)=Z s') (h:∀t f' U,Inv t h0 io w0 s' f' U->Tr (Z d) (eW s (Z d) (.cut k a b c)) γ w t U f f'->K f' U) :
  ui P N ⟨Z d,.slice T x lo qF O,ty,pos,aft,gd⟩ f w K:=by
 have C:=ct F hx;simp only[lQ]at q
 split at q
 ·rename_i k' fl IU;rw[IU]at C;simp only[CR]at C
  split at q
  ·rename_i l m hl hu
   split at q
   ·rename_i hc;obtain⟨rfl,rfl,rfl⟩:=hc;simp only[aa]at q;subst q;have hr:=FK (w:=w) (dst:=Z d) (ty:=ty) (pos:=pos) (aft:=aft) (gd:=gd) hU (λw=>run_sizeOf hz w) C.1 (oP F M8 hl) (oP F R hu) (az _) (az _);refine vE hr ?_;exact h γ _ w (F.put d (.nil k' fl) _ (by simp only[CR];simp[C.2])) ⟨uC.refl _ _ _,λ_ _=>rfl,λ_=>az _,.put⟩
   ·cases q
  ·cases q
 ·rename_i r IU;rw[IU]at C;simp only[CR]at C
  split at q
  ·rename_i row hl
   split at q
   ·rename_i l m S af8
    split at q
    ·rename_i hc;obtain⟨rfl,c1,c2,yo⟩:=hc;simp only[aa]at q;subst q;obtain⟨my,A,n,c,i2,b2,zZ,L,o2,l2,q1,q2,q3,q4,q5,q6,q7,q8⟩:=F.tM hl;have qj:(fr f N).eval x=.slice A n c:=C.1.trans q1;have hr:=FK (w:=w) (dst:=Z d) (ty:=ty) (pos:=pos) (aft:=aft) (gd:=gd) hU (λw=>run_sizeOf hz w) qj (oP F M8 S) (by rw[q2];exact oP F R af8) c1 (by omega);have B:((row.es.take m).drop l).length=m - l:=by simp;omega
     have wU:∀e∈(row.es.take m).drop l,e∈row.es:=λe q=>cn (ff q);have BG:∀e∈(row.es.take m).drop l,e.length=row.k:=λe q=>q6 e (wU e q);have Zt:row.fl=I->flat ((row.es.take m).drop l):=λhf e q=>q7 hf e (wU e q);refine vE hr ?_;rcases q8 with ⟨rfl,rfl⟩|⟨g,o,xs,G,rfl,a2,a3,a4,a5,a6,a7,a8,a9,tZ,TE,a12⟩
     ·have hu0:m=0:=by omega
      subst hu0;have N1:l=0:=by omega
      subst N1;have hR:pz my.h w {row with es:=(row.es.take 0).drop 0,app:=row.app && b.isNone } (.slice O 0 0) []:=⟨O,0,0,rfl,by simp,az _,by simp[maxLen],q5,BG,Zt,.inl ⟨rfl,rfl,rfl⟩⟩
      obtain⟨t,Q,j2,Y,X,_⟩:=i2.uG (r:=r) hR (by simp) (λ_ h=>by simp at h);rw[jA]at Q;exact h t _ w (Q.put d (.ref r) _ (by simp only[CR,j2];simp)) ⟨uC.refl _ _ _,λx _=>by rw[Y,b2],λg=>by rw[X,L];exact az _,.put⟩
     ·rw[<- bD m row.es]at a6;obtain⟨v1,v2,F1,F2,rfl,rfl,k1,_⟩:=fy.gk _ a6;rw[<- bD l (row.es.take m)]at k1;obtain⟨u1,u2,G1,G2,rfl,rfl,m1,m2⟩:=fy.gk _ k1;have hu1:u1.length=l * row.k:=by
       rw[fy.length _ m1 (λe q=>q6 e (cn (cn q)))];simp only[bj];rw[cI (by rw[cI (by omega)];exact c1)]
      have iy:iH w g (if c=l then o else o+l * row.k) u2:=by
       intro j y hy;split
       ·rename_i rH;have:u2.length=0:=by
         rw[fy.length _ m2 BG,B,show m - l=0 by omega,rq]
        have:=(bh.1 hy).1;omega
       ·have:=a7 (l * row.k+j) y (by
         rw[bB,dw (by omega),hu1,uA,dd (bh.1 hy).1];exact hy)
        rw[show o+(l * row.k+j)=o+l * row.k+j by omega]at this;exact this
      have V:∀v∈G2,v∈G1++G2++F2:=λv H=>by simp[H]
      obtain⟨t,Q,j2,Y,X,_⟩:=i2.qc (r:=r) (x:={row with es:=(row.es.take m).drop l,app:=row.app && b.isNone }) (n:=m - l) (c:=c - l) (g:=g) (o:=if c=l then o else o+l * row.k) B.symm (by omega) (by omega) q5 BG Zt a2 (.inl a4) (i2.own g (by rw[a4];simp)).2 a5 m2 iy (by rw[L,a9 yo];omega) (λ_=>by rw[L];exact a9 yo)
       (λW=>by
        simp only[ai,se]at W;have hb0:l=0:=by
         have:=S;rw[W.2]at this;simp only[sL,aa]at this;exact this.symm
        obtain⟨p1,p2⟩:=tZ W.1;subst hb0;refine⟨by simp[p1],?_⟩
        simpa using p2)
       (λv H=>by rw[L];exact TE v (V v H))
       (λhd=>by
        obtain⟨d1,d2⟩:=a12 hd;refine⟨?_,λv H=>(d2 v (V v H)).1⟩;rw[cx]at d1 ⊢;refine⟨λhm=>d1.1 ?_,?_⟩
        ·obtain⟨v,H,e⟩:=bZ.1 hm;exact bZ.2 ⟨v,V v H,e⟩
        ·have:=d1.2;rw[cp,cp,bH,bH]at this;exact this.1.2.1)
      rw[jA]at Q;have hv:(Value.slice (if c=l then Z ⟨g,o,O⟩ else (Z (⟨g,o,O⟩:Addr)).map (λi=>i.add (l * row.k))) (m - l) (c - l))=.slice (Z ⟨g,if c=l then o else o+l * row.k,O⟩) (m - l) (c - l):=by
       split<;>simp[pZ]
      rw[hv];exact h t _ w (Q.put d (.ref r) _ (by simp only[CR,j2];exact⟨trivial,_,_,_,rfl⟩)) ⟨uC.refl _ _ _,λx _=>by rw[Y,b2],λg=>by have:=X g;rw[L]at this;exact this,.put⟩
    ·cases q
   ·cases q
  ·cases q
 ·cases q
end
end
section
open Go.RowKit
def GD(h:Nat->Nat)(w:World):RV->Value->M Nat->Prop
 | .d x,v,F=>F=[]/\∃G,Rp w x v G/\eI h G
 | .row r,v,F=>pz h w r v F/\F.Nodup
def jd(h:Nat->Nat)(w:World):M RV->M Value->M Nat->Prop
 |[],a,F=>a=[]/\F=[]
 |r::rs,a,F=>∃v b d c,a=v::b/\F=d++c/\GD h w r v d/\jd h w rs b c
def AR(h:Nat->Nat)(w:World):A->Value->M Nat->Prop
 | .val b cs,v,F=>∃a,jd h w cs a F/\(b=I->v=.agg a.toArray)/\(b=J->a=[v])
 | .box cs,v,F=>∃g T a c,v=.pointer (Z ⟨g,0,O⟩)/\kJ w g T a/\h g=0/\F=g::c/\jd h w cs a c
def mT(h:Nat->Nat)(w:World):M A->M Value->M Nat->Prop
 |[],b,F=>b=[]/\F=[]
 |a::as,b,F=>∃v c e d,b=v::c/\F=e++d/\AR h w a v e/\mT h w as c d
structure Bw (h:Nat->Nat) (F:List Nat) (w w':World) (h':Nat->Nat):Prop where
 os:w'.os=w.os
 tape:w'.tape=w.tape
 output:w'.output=w.output
 size:w.heap.size<=w'.heap.size
 block:∀g,g < w.heap.size->g∉F->w'.heap[g]?=w.heap[g]?
 cell:∀g j,g < w.heap.size->j < h g->w'.cell? ⟨g,j,none⟩=w.cell? ⟨g,j,none⟩
 mono:∀g,g < w.heap.size->h g<=h' g
 hold:∀g,g < w.heap.size->g∉F->h' g=h g
 fW:∀g,w'.heap.size<=g->h' g=0
 fX:∀g,oG w g->oG w' g
def iA:M A->M Value->M Value
 | .box _::as,v::a=>v::iA as a
 | .val _ _::as,_::a=>iA as a
 |_,_=>[]
def YM(a:M Value)(v:Value):Prop:=a=[v]\/(a.length≠1/\v=.tuple a.toArray)
def J4:String:= "internal/strconv.uint64pow10"
def Ua(P:Program)(w:World)(F:M Nat):Prop:=∀g,P.globalNamed J4=Z g->g < w.heap.size/\g∉F/\Lib.TabIs P w J4 .u64 Lib.pow10Tab
theorem Ua.step{P:Program}{w d:World}{F j:M Nat}(h:Ua P w F)(m:w.heap.size<=d.heap.size)(e:∀g,g < w.heap.size->g∉F->d.heap[g]?=w.heap[g]?)(l:∀g∈j,w.heap.size<=g\/g∈F):Ua P d j:=by
 intro g f;obtain⟨a,b,c⟩:=h g f;refine⟨by omega,λk=>?_,?_⟩
 ·rcases l g k with i|i
  ·omega
  ·exact b i
 ·unfold Lib.TabIs World.var? at c ⊢;rw[f]at c ⊢;simp only[dY]at c ⊢;rw[e g a b];exact c
def T9(P:Program)(g:FuncId)(as j outs:M A)(w:World)(h:Nat->Nat)(b:M Value)(F:M Nat):Prop:=
 mT h w as b F->F.Nodup->(∀g∈F,g < w.heap.size)->(∀g,w.heap.size<=g->h g=0)->
  Calls P g b.toArray w λe a=>∃v i f d c,e=.returned v/\YM i v/\mT c a j i f/\mT c a outs (iA as b) d/\(f++d).Nodup/\(∀g∈f++d,(w.heap.size<=g\/g∈F)/\g < a.heap.size)/\Bw h F w a c
def oY(P:Program)(g:FuncId)(as b outs:M A):Prop:=
 ∀(w:World) (h:Nat->Nat) (a:M Value) (F:M Nat),Ua P w F->T9 P g as b outs w h a F
def xu(a:World)(b:M Nat)(P:Program)(g:FuncId)(as d outs:M A):Prop:=
 ∀(w:World) (h:Nat->Nat) (c:M Value) (F:M Nat),a.heap.size<=w.heap.size->(∀g,g < a.heap.size->g∉b->w.heap[g]?=a.heap[g]?)->(∀g∈F,a.heap.size<=g\/g∈b)->T9 P g as d outs w h c F
theorem oY.at_{P:Program}{g:FuncId}{as b outs:M A}{a:World}{c:M Nat}(h:oY P g as b outs)(e:Ua P a c):xu a c P g as b outs:=
 λw k d F j i f=>h w k d F (e.step j i f)
def ir(w:World):M D->M Value->M Fp->Prop
 |[],a,b=>a=[]/\b=[]
 |d::f,a,b=>∃v c F e,a=v::c/\b=F::e/\Rp w d v F/\ir w f c e
def Ub(P:Program)(l:FuncId)(k:Bool)(i:M D)(q:Int)(f:M D)(c:Int)(w:World)(h:Nat->Nat)(v:Value)(b:M Value)(a:M Fp):Prop:=
 ir w i b a->(k=I->v=.agg b.toArray)->(k=J->b=[v])->IntKind.i64.wrap q=q->(a.flatten.map cr).Nodup->(∀G∈a,∀j∈G,h j.1=0/\oG w j.1)->(∀g,w.heap.size<=g->h g=0)->
  Calls P l #[v,.int .i64 q] w λe d=>e=.returned (.int .i64 c)/\IntKind.i64.wrap c=c/\ir d f b a/\f.map D.plain=i.map D.plain/\Bw h (a.flatten.map cr) w d h
def CZ(P:Program)(g:FuncId)(f:Bool)(e:M D)(q:Int)(d:M D)(c:Int):Prop:=
 ∀(w:World) (h:Nat->Nat) (v:Value) (b:M Value) (a:M Fp),Ua P w (a.flatten.map cr)->Ub P g f e q d c w h v b a
def ru(a:World)(b:M Nat)(P:Program)(k:FuncId)(j:Bool)(i:M D)(q:Int)(f:M D)(e:Int):Prop:=
 ∀(w:World) (h:Nat->Nat) (v:Value) (d:M Value) (c:M Fp),a.heap.size<=w.heap.size->(∀g,g < a.heap.size->g∉b->w.heap[g]?=a.heap[g]?)->(∀g∈c.flatten.map cr,a.heap.size<=g\/g∈b)->Ub P k j i q f e w h v d c
theorem CZ.at_{P:Program}{g:FuncId}{f:Bool}{e d:M D}{q b:Int}{a:World}{c:M Nat}(h:CZ P g f e q d b)(j:Ua P a c):ru a c P g f e q d b:=
 λw k v i o n m l=>h w k v i o (j.step n m l)
theorem OF{d j i:Nat}(h:j≠i):w8 d j≠w8 d i:=by unfold w8;omega
section
variable {h0:Nat->Nat} {io:M Nat} {w0:World} {f:Fm} {w:World}
theorem Inv.W3{a:Gh}{s:St}(b:Inv a h0 io w0 s f w)(d:Nat)(c:C)(i:CR a w c (f d)):Inv a h0 io w0 (s.put (Z d) c) f w:=
 {b with
  sl:=λe j h=>by
   simp only[St.put,look]at h;by_cases g:d=e
   ·subst g;simp at h;subst h;exact i
   ·rw[if_neg g]at h;exact b.sl e j h }
theorem pz.slice{h:Nat->Nat}{x:Row}{v:Value}{F:M Nat}(a:pz h w x v F):∃A n c,v=.slice A n c:=by
 obtain⟨A,n,c,b,_⟩:=a;exact⟨A,n,c,b⟩
theorem oK{d:Nat}:∀(l:M RV) {m:M Value} {F:M Nat} (j:Nat) {b:Gh} {s:St},Inv b h0 io w0 s f w->jd b.h w l m F->F.Nodup->(∀g∈F,(b.ω g=.free\/b.ω g=.ej)/\g < w.heap.size/\(w0.heap.size<=g\/g∈io))->
  ∃a,Inv a h0 io w0 (fv d j l s).2 f w/\fu a w (fv d j l s).1 m/\a.β=b.β/\a.h=b.h/\(∀g,g∉F->a.ω g=b.ω g)/\∀q,(∀i,j<=i->q≠w8 d i)->a.sl q=b.sl q
 |[],m,F,j,b,s,e,c,_,_=>by
  simp only[jd]at c;obtain⟨rfl,rfl⟩:=c;exact⟨b,e,by simp[fv,fu],rfl,rfl,λ_ _=>rfl,λ_ _=>rfl⟩
 | .d x::l,m,F,j,b,s,e,c,p,y=>by
  simp only[jd,GD]at c;obtain⟨v,C,L,F2,rfl,rfl,⟨rfl,G,N,U⟩,c⟩:=c;obtain⟨a,B,c1,D,n,o,Q⟩:=oK l (j+1) e c (by simpa using p) (by simpa using y);refine⟨a,B,?_,D,n,by simpa using o,λq t=>Q q (λi e=>t i (by omega))⟩;simp only[fv,fu];exact⟨v,C,rfl,by simp only[CR];exact⟨G,N,by rw[n];exact U⟩,c1⟩
 | .row x::l,m,F,j,b,s,e,c,p,y=>by
  simp only[jd,GD]at c;obtain⟨v,C,L,F2,rfl,rfl,⟨K,P⟩,c⟩:=c;rw[bH]at p;obtain⟨_,LC,R⟩:=p;obtain⟨oT,B,A,D,n,o,q1⟩:=e.uG (r:=w8 d j) K P (λg k=>by
   have:=y g (by simp[k]);exact⟨by rcases this.1 with h|h<;>simp[h],this.2⟩)
  obtain⟨T,i2,X,Y,W,S,H⟩:=oK l (j+1) B (by rw[n];exact c) LC (λg k=>by
   have V:g∉L:=λh=>R g h g k rfl;rw[o g V];exact y g (by simp[k]))
  refine⟨T,i2,?_,Y.trans D,W.trans n,λg k=>?_,λq t=>?_⟩
  ·simp only[fv,fu];refine⟨v,C,rfl,?_,X⟩;simp only[CR];rw[H (w8 d j) (λi e=>OF (by omega)),A];exact⟨rfl,K.slice⟩
  ·simp only[aT,not_or]at k;rw[S g k.2,o g k.1]
  ·rw[H q (λi e=>t i (by omega)),q1 q (t j (az _))]
theorem tq{d:Nat}:∀(e:M RV) {n:M Value} {F:M Nat} (j:Nat) {b:Gh} {s:St},Inv b h0 io w0 s f w->jd b.h w e n F->F.Nodup->(∀g∈F,(b.ω g=.free\/b.ω g=.ej)/\g < w.heap.size/\(w0.heap.size<=g\/g∈io))->
  ∃a,Inv a h0 io w0 (fv d j e s).2 f w/\(∀m,m.h=a.h->(∀i,j<=i->i < j+e.length->m.sl (w8 d i)=a.sl (w8 d i))->fu m w (fv d j e s).1 n)/\a.β=b.β/\a.h=b.h/\(∀g,g∉F->a.ω g=b.ω g)/\∀q,(∀i,j<=i->q≠w8 d i)->a.sl q=b.sl q
 |[],n,F,j,b,s,k,c,_,_=>by
  simp only[jd]at c;obtain⟨rfl,rfl⟩:=c;exact⟨b,k,λ_ _ _=>by simp[fv,fu],rfl,rfl,λ_ _=>rfl,λ_ _=>rfl⟩
 | .d x::e,n,F,j,b,s,k,c,t,A=>by
  simp only[jd,GD]at c;obtain⟨v,N,S,F2,rfl,rfl,⟨rfl,G,T,Y⟩,c⟩:=c;obtain⟨a,H,c1,P,o,p,V⟩:=tq e (j+1) k c (by simpa using t) (by simpa using A);refine⟨a,H,λm C B=>?_,P,o,by simpa using p,λq y=>V q (λi k=>y i (by omega))⟩;simp only[fv,fu];exact⟨v,N,rfl,by simp only[CR];exact⟨G,T,by rw[C,o];exact Y⟩,c1 m C (λi L K=>B i (by omega) (by simp;omega))⟩
 | .row x::e,n,F,j,b,s,k,c,t,A=>by
  simp only[jd,GD]at c;obtain⟨v,N,S,F2,rfl,rfl,⟨R,U⟩,c⟩:=c;rw[bH]at t;obtain⟨_,LC,W⟩:=t;obtain⟨oT,H,D,P,o,p,q1⟩:=k.uG (r:=w8 d j) R U (λg l=>by
   have:=A g (by simp[l]);exact⟨by rcases this.1 with h|h<;>simp[h],this.2⟩)
  obtain⟨m,i2,c2,b2,L,X,Q⟩:=tq e (j+1) H (by rw[o];exact c) LC (λg l=>by
   have K:g∉S:=λh=>W g h g l rfl;rw[p g K];exact A g (by simp[l]))
  refine⟨m,i2,λRj C B=>?_,b2.trans P,L.trans o,λg l=>?_,λq y=>?_⟩
  ·simp only[fv,fu];refine⟨v,N,rfl,?_,c2 Rj C (λi L K=>B i (by omega) (by simp;omega))⟩;simp only[CR];rw[B j (az _) (by simp),Q (w8 d j) (λi k=>OF (by omega)),D];exact⟨rfl,R.slice⟩
  ·simp only[aT,not_or]at l;rw[X g l.2,p g l.1]
  ·rw[Q q (λi k=>y i (by omega)),q1 q (y j (az _))]
theorem jd.length{h:Nat->Nat}:∀{b:M RV} {c:M Value} {F:M Nat},jd h w b c F->c.length=b.length
 |[],_,_,a=>by simp only[jd]at a;simp[a.1]
 |_::_,_,_,a=>by
  simp only[jd]at a;obtain⟨v,d,g,e,rfl,rfl,_,a⟩:=a;simp[jd.length a]
theorem Az{b:Gh}{a:M C}{v:Value}(h:fu b w a [v]):CR b w (a.headD .any) v:=by
 cases a with
 |nil=>simp[fu]at h
 |cons c a=>
  simp only[fu]at h;obtain⟨g,i,e,d,_⟩:=h;simp only[bY]at e;rw[e.1];exact d
theorem D1{p:Nat}:∀(a:M RV) (j:Nat) (s:St),C.kN (900+p) (fv (p+500) j a s).1=(fv (p+500) j a s).1
 |[],j,s=>by simp[fv,C.kN]
 | .d x::a,j,s=>by simp only[fv,C.kN,C.kill,D1 a (j+1) s]
 | .row x::a,j,s=>by
  have h:w8 (p+500) j≠900+p:=by unfold w8;omega
  simp only[fv,C.kN,C.kill,D1 a (j+1),if_neg h]
theorem uV:∀(as:M A) {n:M Value} {F:M Nat} (p:Nat) {e:Gh} {s:St},Inv e h0 io w0 s f w->mT e.h w as n F->F.Nodup->(∀g∈F,(e.ω g=.free\/e.ω g=.ej)/\g < w.heap.size/\(w0.heap.size<=g\/g∈io))->(∀i v,n[i]?=Z v->f (p+i)=v)->
  ∃j,Inv j h0 io w0 (jW p as s) f w/\j.h=e.h/\(∀q,q < p->j.β (900+q)=e.β (900+q))/\∀i m g,as[i]?=Z (.box m)->n[i]?=Z (.pointer (Z ⟨g,0,O⟩))->j.β (900+(p+i))=g
 |[],n,F,p,e,s,B,_,_,_,_=>⟨e,B,rfl,λ_ _=>rfl,λi m g h=>by simp at h⟩
 | .val ag m::as,n,F,p,e,s,B,k,x,r,D=>by
  simp only[mT,AR]at k;obtain⟨v,fC,F1,F2,rfl,rfl,⟨us,P,ha,hb⟩,k⟩:=k;rw[bH]at x;obtain⟨N,LC,K⟩:=x;obtain⟨oT,S,c1,X,t,L,_⟩:=oK (d:=p) m 0 B P N (λg o=>r g (by simp[o]));have c:f p=v:=by simpa using D 0 v rfl
  have i2:Inv oT h0 io w0 (Aq p (.val ag m) s) f w:=by
   refine S.W3 p _ ?_;cases ag with
   |true=>
    rw[c,ha rfl];simp only[if_true,CR];exact⟨us,rfl,c1⟩
   |false=>
    rw[c];simp only[aD,if_false];rw[hb rfl]at c1;exact Az c1
  obtain⟨Q,i3,G,p3,x3⟩:=uV as (p+1) i2 (by rw[t];exact k) LC (λg o=>by
   have G:g∉F1:=λh=>K g h g o rfl;rw[L g G];exact r g (by simp[o])) (λi a V=>by rw[show p+1+i=p+(i+1) from by omega];exact D (i+1) a (by simpa using V))
  refine⟨Q,i3,G.trans t,λq hq=>by rw[p3 q (by omega),X],λi R g l H=>?_⟩;cases i with
  |zero=>simp at l
  |succ i=>
   have:=x3 i R g (by simpa using l) (by simpa using H);rw[show p+(i+1)=p+1+i from by omega];exact this
 | .box m::as,n,F,p,e,s,B,k,x,r,D=>by
  simp only[mT,AR]at k;obtain⟨v,fC,F1,F2,rfl,rfl,⟨g,T,us,F',rfl,hB,BH,rfl,P⟩,k⟩:=k;rw[bH]at x;obtain⟨N,LC,K⟩:=x;obtain⟨W,Y⟩:=cx.1 N;obtain⟨oT,S,c1,X,t,L,_⟩:=oK (d:=p+500) m 0 B P Y (λg o=>r g (by simp[o]));have c:=D 0 _ rfl;rw[dx]at c;have C:=r g (by simp);obtain⟨Q,i2,j2,k2,l2,m2,w2⟩:=S.Np (b:=900+p) hB (by rw[L g W];exact C.1) C.2.2 (by rw[t];exact BH) c1;rw[D1]at i2;have i3:Inv Q h0 io w0 (Aq p (.box m) s) f w:=i2.W3 p (.ptr (900+p) 0) (by rw[c];simp only[CR,j2]);obtain⟨Rj,i4,h4,p4,x4⟩:=uV as (p+1) i3 (by rw[l2,t];exact k) LC (λy U=>by
   have G:y∉F':=λh=>K y (by simp[h]) y U rfl;have h5:y≠g:=λh=>K y (by simp[h]) y U rfl;rw[w2 y h5,L y G];exact r y (by simp[U])) (λi a V=>by rw[show p+1+i=p+(i+1) from by omega];exact D (i+1) a (by simpa using V))
  refine⟨Rj,i4,h4.trans (l2.trans t),λq hq=>by rw[p4 q (by omega),k2 _ (by omega),X],λi R g' l H=>?_⟩;cases i with
  |zero=>
   simp at H;rw[p4 _ (by omega),dx,j2,H]
  |succ i=>
   have:=x4 i R g' (by simpa using l) (by simpa using H);rw[show p+(i+1)=p+1+i from by omega];exact this
theorem Bp{p:Gh}{s:St}(R:Inv p h0 io w0 s f w):∀(m:M C) {t:M Value} {A:M RV},fu p w m t->gH (kc s) m=Z A->
  ∃F,jd p.h w A t F/\(∀g∈F,∃r∈rowsOf m,p.ω g=.row r)/\((rowsOf m).Nodup->F.Nodup)
 |[],t,A,o,i=>by
  simp only[gH,aa]at i;subst i;simp only[fu]at o;subst o;exact⟨[],by simp[jd],λ_ h=>by simp at h,λ_=>by simp⟩
 |c::m,t,A,o,i=>by
  simp only[fu]at o;obtain⟨v,N,rfl,l,T⟩:=o;simp only[gH]at i
  split at i
  ·rename_i y j;simp only[aj]at i;obtain⟨Gn,i,rfl⟩:=i;obtain⟨F,L,B,K⟩:=Bp R m T i;cases c with
   |d x=>
    simp only[kc,aa]at j;subst j;simp only[CR]at l;refine⟨F,?_,by simpa [rowsOf] using B,by simpa [rowsOf] using K⟩;simp only[jd,GD];exact⟨v,N,[],F,rfl,rfl,⟨rfl,l⟩,L⟩
   |nil k Y=>
    simp only[kc,aa]at j;subst j;simp only[CR]at l;refine⟨F,?_,by simpa [rowsOf] using B,by simpa [rowsOf] using K⟩;simp only[jd,GD];exact⟨v,N,[],F,rfl,rfl,⟨⟨O,0,0,l.1,rfl,az _,by simp[maxLen],l.2,λ_ h=>by simp at h,λ_=>jC,.inl ⟨rfl,rfl,rfl⟩⟩,by simp⟩,L⟩
   |ref r=>
    simp only[kc,aj]at j;obtain⟨x,U,rfl⟩:=j;simp only[CR]at l;obtain⟨S,X,Q,P⟩:=R.rw r x U;refine⟨S++F,?_,λg n=>?_,λH=>?_⟩
    ·simp only[jd,GD];exact⟨v,N,S,F,rfl,rfl,⟨by rw[l.1];exact X,Q⟩,L⟩
    ·rcases aT.1 n with n|n
     ·exact⟨r,by simp[rowsOf],P g n⟩
     ·obtain⟨q,G,D⟩:=B g n;exact⟨q,by simp[rowsOf,G],D⟩
    ·simp only[rowsOf,cx]at H;rw[bH];refine⟨Q,K H.2,?_⟩;intro a W b V e;subst e;obtain⟨q,G,D⟩:=B a V;rw[P a W]at D;cases D;exact H.1 G
   |_=>simp[kc]at j
  ·cases i
end
end
section
open Go.RowKit
section
variable {h0:Nat->Nat} {io:M Nat} {w0:World} {f:Fm} {w:World}
theorem BU(s:St)(r:Nat)(x:Row):(s.cY r).setRow r x=s.setRow r x:=by
 simp[St.setRow,St.cY,Hz]
theorem Inv.share1{j:Gh}{s:St}(hi:Inv j h0 io w0 s f w){r:Nat}{x:Row}(hl:look s.rw r=Z x) :
  ∃a G,Inv a h0 io w0 (s.setRow r x.share) f w/\a.β=j.β/\a.sl=j.sl/\(∀g,j.h g<=a.h g)/\Rp w (.list x.k x.fl x.es) (j.sl r) G/\eI a.h G/\∀g,a.ω g=j.ω g\/a.ω g=.ej\/a.ω g=.free\/a.ω g=.row r:=by
 obtain⟨i,A,n,c,i2,Q,zZ,F,o2,l2,q1,q2,v,t,q,p,l,q8⟩:=hi.tM hl;have D:∀g,i.ω g=j.ω g\/i.ω g=.ej:=λg=>by
  rcases jL (j.ω g=.row r) with h|h
  ·exact .inr (l2 g h)
  ·exact .inl (o2 g h)
 rcases q8 with ⟨rfl,rfl⟩|⟨g,o,xs,G,rfl,a2,a3,a4,a5,L,a7,S,a9,tZ,TE,a12⟩
 ·have hR:pz i.h w x.share (i.sl r) []:=⟨O,n,0,by rw[zZ];exact q1,q2,v,t,q,p,l,.inl ⟨rfl,rfl,rfl⟩⟩
  obtain⟨a,X,h3,h4,h5,h6⟩:=i2.setRow (r:=r) hR (by simp) (λ_ h=>by simp at h);rw[BU]at X;refine⟨a,[],X,h4.trans Q,h3.trans zZ,λg=>by rw[h5,F];exact az _,?_,λ_ h=>by simp at h,λg=>?_⟩
  ·simp only[Rp];exact⟨O,n,0,q1,q2,v,t,l,q,p,.inl ⟨by omega,trivial⟩⟩
  ·rcases h6 g with h|h
   ·rw[h];rcases D g with h'|h'
    ·exact .inl h'
    ·exact .inr (.inl h')
   ·exact .inr (.inr (.inr h))
 ·have i3:=i2.settle (h':=λy=>if y=g then o+n * x.k else i.h y) (ω':=i.ω) (λy=>by
    split
    ·rename_i e;subst e;rw[F];exact S
    ·exact az _)
   (λy m=>by
    have e:y=g:=by
     rcases jL (y=g) with h|h
     ·exact h
     ·exact absurd (by simp[h]) m
    subst e;have W:=i2.own y (by rw[a4];simp);exact⟨W.1,W.2,λ_ _ _=>by rw[a4];simp,λ_ _ _=>by rw[a4];simp⟩)
   (λy=>.inl rfl)
   (λy b m=>by
    by_cases e:y=g
    ·subst e;rw[a4]at m;cases m
    ·simp only[if_neg e];exact i2.nS y b m)
  have R:∀y,y≠g->yu i w y->yu {i with h:=λy=>if y=g then o+n * x.k else i.h y,ω:=i.ω } w y:=λy m P=>⟨P.1,by simp only[if_neg m];exact P.2.1,P.2.2⟩
  obtain⟨d,i4,T,Y,U,g4,w4⟩:=i3.vY (r:=r) (x:=x.share) (n:=n) (c:=c) (g:=g) (o:=o) q2 v t q p l a2 (.inl a4) (i2.own g (by rw[a4];simp)).2 a5 L a7 (by simp only[if_true];exact az _) (λh=>by cases h) tZ
   (λK B=>by
    rcases TE K B with h|⟨h,V⟩
    ·by_cases e:K.1=g
     ·simp only[if_pos e];rw[e]at h;exact .inl (aH h S)
     ·simp only[if_neg e];rw[F];exact .inl h
    ·exact .inr ⟨R _ V h,V⟩)
   (λH=>by
    have:G=[]:=L.plain (l H);subst this;simp)
   (by show i.sl r=_;rw[zZ];exact q1)
  rw[BU]at i4;have mono:∀y,j.h y<=d.h y:=λy=>by
   refine aH ?_ (U y);show j.h y<=if y=g then o+n * x.k else i.h y
   split
   ·rename_i e;subst e;exact S
   ·rw[F];exact az _
  have N:o+n * x.k<=d.h g:=by
   have:=U g
   simpa using this
  have kZ:eI d.h G:=by
   cases H:x.fl with
   |true=>
    have:G=[]:=L.plain (l H);subst this;exact λ_ h=>by simp at h
   |false=>exact g4 H
  have C:∀g,d.ω g=j.ω g\/d.ω g=.ej\/d.ω g=.free\/d.ω g=.row r:=λy=>by
   rcases w4 y with h|h|h
   ·rw[h];rcases D y with h'|h'
    ·exact .inl h'
    ·exact .inr (.inl h')
   ·exact .inr (.inr (.inl h))
   ·exact .inr (.inr (.inr h))
  by_cases hn:n=0
  ·refine⟨d,[],i4,Y.trans Q,T.trans zZ,mono,?_,λ_ h=>by simp at h,C⟩;simp only[Rp];exact⟨_,n,c,q1,q2,v,t,l,q,p,.inl ⟨hn,trivial⟩⟩
  ·refine⟨d,(g,o+n * x.k)::G,i4,Y.trans Q,T.trans zZ,mono,?_,λK B=>?_,C⟩
   ·simp only[Rp];exact⟨_,n,c,q1,q2,v,t,l,q,p,.inr ⟨by omega,g,o,xs,G,rfl,rfl,L,a7⟩⟩
   ·rcases aI.1 B with rfl|B
    ·exact N
    ·exact kZ K B
theorem vt(s:St)(r q:Nat)(x:Row):look (s.setRow r x).rw q=if r=q then Z x else look s.rw q:=by
 simp only[St.setRow,look,eN]
 split<;>rfl
theorem Inv.Bh:∀(c:M Nat) {d:Gh} {s:St},Inv d h0 io w0 s f w->
  ∃a,Inv a h0 io w0 (fc s c) f w/\a.β=d.β/\a.sl=d.sl/\(∀g,d.h g<=a.h g)/\(∀r∈c,∀x,look s.rw r=Z x->∃G,Rp w (.list x.k x.fl x.es) (d.sl r) G/\eI a.h G)/\
   (∀g,a.ω g=d.ω g\/a.ω g=.ej\/a.ω g=.free\/∃r∈c,a.ω g=.row r)/\(fc s c).sl=s.sl/\(fc s c).bx=s.bx/\∀q,q∉c->look (fc s c).rw q=look s.rw q
 |[],d,s,m=>⟨d,m,rfl,rfl,λ_=>az _,λ_ h=>by simp at h,λ_=>.inl rfl,rfl,rfl,λ_ _=>rfl⟩
 |r::c,d,s,m=>by
  cases j:look s.rw r with
  |none=>
   obtain⟨a,t,H,l,p,U,n,D,C,B⟩:=Inv.Bh c m;have F:fc s (r::c)=fc s c:=by simp[fc,j]
   rw[F];refine⟨a,t,H,l,p,λq b x A=>?_,λg=>?_,D,C,λq b=>B q (λh=>b (by simp[h]))⟩
   ·rcases aI.1 b with rfl|b
    ·rw[j]at A;cases A
    ·exact U q b x A
   ·rcases n g with h|h|h|⟨q,b,h⟩
    ·exact .inl h
    ·exact .inr (.inl h)
    ·exact .inr (.inr (.inl h))
    ·exact .inr (.inr (.inr ⟨q,by simp[b],h⟩))
  |some x=>
   obtain⟨X,G,t,H,l,p,o,K,n⟩:=m.share1 j;obtain⟨Q,i2,V,P,L,T,N,D,C,B⟩:=Inv.Bh c t;have F:fc s (r::c)=fc (s.setRow r x.share) c:=by simp[fc,j]
   rw[F];refine⟨Q,i2,V.trans H,P.trans l,λg=>aH (p g) (L g),λq b y v=>?_,λg=>?_,D,C,λq b=>?_⟩
   ·by_cases e:q=r
    ·subst e;rw[j]at v;cases v;exact⟨G,o,K.mono L⟩
    ·rcases aI.1 b with b|b
     ·exact absurd b e
     ·obtain⟨W,S,R⟩:=T q b y (by rw[vt,if_neg (mR e)];exact v);exact⟨W,by rw[<- l];exact S,R⟩
   ·rcases N g with h|h|h|⟨q,b,h⟩
    ·rw[h];rcases n g with i|i|i|i
     ·exact .inl i
     ·exact .inr (.inl i)
     ·exact .inr (.inr (.inl i))
     ·exact .inr (.inr (.inr ⟨r,by simp,i⟩))
    ·exact .inr (.inl h)
    ·exact .inr (.inr (.inl h))
    ·exact .inr (.inr (.inr ⟨q,by simp[b],h⟩))
   ·simp only[aI,not_or]at b;rw[B q b.2,vt,if_neg (mR b.1)]
theorem tI:∀(l:M Nat),kG l=I↔l.Nodup
 |[]=>by simp[kG]
 |x::l=>by simp[kG,tI l]
theorem Rg{s S:St}:∀(a:M C),(∀r∈rowsOf a,look S.rw r=look s.rw r)->gH (kc S) a=gH (kc s) a
 |[],_=>rfl
 |c::a,h=>by
  have b:=Rg (s:=s) (S:=S) a (λr d=>h r (by cases c<;>simp[rowsOf,d]));simp only[gH,b];cases c with
  |ref r=>simp only[kc,h r (by simp[rowsOf])]
  |_=>rfl
theorem Rf{s:St}:∀{a:M C} {b:M RV},gH (kc s) a=Z b->a.all C.cell=I
 |[],_,_=>rfl
 |c::a,b,h=>by
  simp only[gH]at h
  split at h
  ·rename_i y e;simp only[aj]at h;obtain⟨g,h,_⟩:=h;have d:=Rf h;cases c<;>simp_all[kc,C.cell]
  ·cases h
theorem CQ{s:St}:∀{a:M C} {b:M RV},gH (mZ s) a=Z b->a.all C.cell=I
 |[],_,_=>rfl
 |c::a,b,h=>by
  simp only[gH]at h
  split at h
  ·rename_i y e;simp only[aj]at h;obtain⟨g,h,_⟩:=h;have d:=CQ h;cases c<;>simp_all[mZ,C.cell]
  ·cases h
theorem Xg{m p:Gh}{s:St}{q:M Nat}(t:∀g,m.h g<=p.h g)(B:∀r∈q,∀x,look s.rw r=Z x->∃G,Rp w (.list x.k x.fl x.es) (m.sl r) G/\eI p.h G) :
  ∀(i:M C) {j:M Value} {l:M RV},fu m w i j->gH (mZ s) i=Z l->(∀r∈rowsOf i,r∈q)->jd p.h w l j []
 |[],j,l,e,h,_=>by
  simp only[gH,aa]at h;subst h;simp only[fu]at e;simp[jd,e]
 |c::i,j,l,e,h,A=>by
  simp only[fu]at e;obtain⟨v,L,rfl,b,D⟩:=e;simp only[gH]at h
  split at h
  ·rename_i y a;simp only[aj]at h;obtain⟨P,h,rfl⟩:=h;have F:=Xg t B i D h (λr K=>A r (by cases c<;>simp[rowsOf,K]));simp only[jd];refine⟨v,L,[],[],rfl,rfl,?_,F⟩;cases c with
   |d x=>
    simp only[mZ,aa]at a;subst a;simp only[CR]at b;obtain⟨G,o,n⟩:=b;exact⟨rfl,G,o,n.mono t⟩
   |nil k N=>
    simp only[mZ,aa]at a;subst a;simp only[CR]at b;refine⟨rfl,[],?_,λ_ h=>by simp at h⟩;simp only[Rp];exact⟨O,0,0,b.1,rfl,az _,by simp[maxLen],λ_=>jC,b.2,λ_ h=>by simp at h,.inl ⟨rfl,trivial⟩⟩
   |ref r=>
    simp only[mZ,aj]at a;obtain⟨x,H,rfl⟩:=a;simp only[CR]at b;obtain⟨G,o,n⟩:=B r (A r (by simp[rowsOf])) x H;exact⟨rfl,G,by rw[b.1];exact o,n⟩
   |_=>simp[mZ]at a
  ·cases h
theorem KE{H j:Gh}{s S:St}{ln:M Nat}(hS:Inv j h0 io w0 S f w)(hb:j.β=H.β)(wk:j.sl=H.sl)(Q:∀g,H.h g<=j.h g)(V:S.bx=s.bx)(hG:∀r∈ln,∀x,look s.rw r=Z x->∃G,Rp w (.list x.k x.fl x.es) (H.sl r) G/\eI j.h G)
  (R:∀q,q∉ln->look S.rw q=look s.rw q):∀(i:M C) {K:M Value} {as:M A},fu H w i K->zP s i=Z as->(∀r∈jE i,r∈ln)->(∀r∈dN s i,r∉ln)->(dN s i).Nodup->(cX i).Nodup->
   ∃F,mT j.h w as K F/\F.Nodup/\(∀g∈F,(∃r∈dN s i,j.ω g=.row r)\/∃b∈cX i,j.ω g=.box b/\g=j.β b)/\∀b∈cX i,Value.pointer (Z ⟨j.β b,0,O⟩)∈iA as K
 |[],K,as,U,h,_,_,_,_=>by
  simp only[zP,aa]at h;subst h;simp only[fu]at U;exact⟨[],by simp[mT,U],by simp,λ_ h=>by simp at h,λ_ h=>by simp[cX]at h⟩
 |c::i,K,as,U,h,hl,o,sb,L=>by
  simp only[fu]at U;obtain⟨v,fC,rfl,hv,wm⟩:=U;simp only[zP]at h
  split at h
  ·rename_i a t;simp only[aj]at h;obtain⟨Ps,h,rfl⟩:=h;simp only[jE,dN]at hl o sb;rw[bH]at sb;obtain⟨yq,LC,N⟩:=sb;have ajV:(cX i).Nodup:=by
    cases c<;>simp_all[cX]
   obtain⟨F2,r2,d2,l2,p2⟩:=KE hS hb wk Q V hG R i wm h (λr d=>hl r (by simp[d])) (λr d=>o r (by simp[d])) LC ajV;have TT:CR j w c v:=hv.mono (γ':=j) Q (λ_ _ _=>rfl) hb wk c;unfold Tt at t
   split at t
   ·rename_i b
    split at t
    ·rename_i TH X;simp only[aj]at t;obtain⟨rs,D,rfl⟩:=t;have P:sH s (.ptr b 0)=rowsOf TH:=by simp[sH,X]
     rw[P]at o yq N;obtain⟨T,us,k1,k2,B⟩:=hS.bx b TH (by rw[V];exact X);rw[<- Rg (S:=S) _ (λr d=>R r (o r (by simp[d])))]at D;obtain⟨F1,x1,x2,x3⟩:=Bp hS _ k2 D;simp only[CR]at TT;simp only[cX,cx]at L;refine⟨(j.β b::F1)++F2,?_,?_,λg p=>?_,λY l=>?_⟩
     ·simp only[mT];refine⟨v,fC,j.β b::F1,F2,rfl,rfl,?_,r2⟩;simp only[AR];exact⟨_,T,us,F1,TT,k1,hS.nS _ b B,rfl,x1⟩
     ·rw[bH];refine⟨cx.2 ⟨λQ=>?_,x3 yq⟩,d2,?_⟩
      ·obtain⟨r,_,d⟩:=x2 _ Q;rw[B]at d;cases d
      ·intro x hx y hy e;subst e;rcases aI.1 hx with rfl|hx
       ·rcases l2 _ hy with ⟨q,hq,n⟩|⟨Y,l,n,_⟩
        ·rw[B]at n;cases n
        ·rw[B]at n;cases n;exact L.1 l
       ·obtain⟨r,d,m⟩:=x2 x hx;rcases l2 x hy with ⟨q,hq,n⟩|⟨Y,l,n,_⟩
        ·rw[m]at n;cases n;exact N _ d _ hq rfl
        ·rw[m]at n;cases n
     ·rcases aT.1 p with p|p
      ·rcases aI.1 p with rfl|p
       ·exact .inr ⟨b,by simp[cX],B,rfl⟩
       ·obtain⟨r,d,m⟩:=x2 g p;exact .inl ⟨r,by simp only[dN,aT,P];exact .inl d,m⟩
      ·rcases l2 g p with ⟨r,d,m⟩|⟨Y,l,m⟩
       ·exact .inl ⟨r,by simp only[dN,aT];exact .inr d,m⟩
       ·exact .inr ⟨Y,by simp[cX,l],m⟩
     ·simp only[cX,aI]at l;simp only[iA,aI];rcases l with rfl|l
      ·exact .inl TT.symm
      ·exact .inr (p2 Y l)
    ·cases t
   ·rename_i V1;simp only[aj]at t;obtain⟨rs,D,rfl⟩:=t;obtain⟨k1,k2,B⟩:=hv.cells (CQ D);have x1:=Xg Q hG _ k1 D (λr d=>hl r (by simp[d]));have W:cX (c::i)=cX i:=by
     have ud:=CQ D;cases c<;>simp_all[cX,C.cells,C.cell]
    refine⟨F2,?_,d2,λg p=>?_,λb l=>?_⟩
    ·simp only[mT];refine⟨v,fC,[],F2,rfl,rfl,?_,r2⟩;simp only[AR];refine⟨_,x1,λwh=>?_,λwh=>by rw[k2 wh]⟩;obtain⟨us,rfl⟩:=B wh;simp[Value.cells]
    ·rw[W];rcases l2 g p with ⟨r,d,m⟩|m
     ·exact .inl ⟨r,by simp only[dN,aT];exact .inr d,m⟩
     ·exact .inr m
    ·rw[W]at l;simp only[iA];exact p2 b l
  ·cases h
theorem KZ{d a:Gh}{s:St}{n:M Nat}(q:∀g,d.h g<=a.h g)(j:a.β=d.β)(m:a.sl=d.sl)(t:∀r∈n,∀x,look s.rw r=Z x->∃G,Rp w (.list x.k x.fl x.es) (d.sl r) G/\eI a.h G) :
  ∀{l:M C} {i:M Value},(∀r∈rowsOf l,r∈n)->fu d w l i->fu a w (l.map (NA s)) i
 |[],i,_,h=>by simpa only [cj,fu] using h
 |c::l,i,p,h=>by
  simp only[fu]at h;obtain⟨v,H,rfl,b,B⟩:=h;simp only[aZ,fu];refine⟨v,H,rfl,?_,KZ q j m t (λr o=>p r (by cases c<;>simp_all[rowsOf])) B⟩;have y:CR a w c v:=CR.mono q (λ_ _ _=>rfl) j m c b;cases c with
  |ref r=>
   simp only[NA];split
   ·rename_i x o;obtain⟨G,F,D⟩:=t r (p r (by simp[rowsOf])) x o;simp only[CR]at b ⊢;rw[b.1];exact⟨G,F,D⟩
   ·exact y
  |nil k K=>
   simp only[CR]at b;simp only[NA,CR];exact⟨[],by simp only[Rp];exact⟨O,0,0,b.1,rfl,az _,by simp[maxLen],λ_=>jC,b.2,λe A=>by simp at A,.inl ⟨rfl,trivial⟩⟩,λL j=>by simp at j⟩
  |_=>exact y
theorem Inv.s_{l:Gh}{s B:St}{d:Nat}(h:Inv l h0 io w0 s f w)(g:Proofs.YtgfcijiikgjbcaaGreatDoor.s_ s d=Z B):∃a,Inv a h0 io w0 B f w/\a.β=l.β:=by
 unfold Proofs.YtgfcijiikgjbcaaGreatDoor.s_ at g
 split at g
 ·rename_i r j
  split at g
  ·rename_i x p;cases g;obtain⟨a,o,n,A,C,q,_⟩:=h.Bh [r];obtain⟨G,K,H⟩:=q r (by simp) x p;have c:=h.get d;rw[j]at c;simp only[CR]at c;exact⟨a,o.W3 d _ (by simp only[CR];rw[c.1];exact⟨G,K,H⟩),n⟩
  ·cases g
 ·rename_i k Q j;cases g;have c:=h.get d;rw[j]at c;simp only[CR]at c;exact⟨l,h.W3 d _ (by simp only[CR];exact⟨[],by simp only[Rp];exact⟨O,0,0,c.1,rfl,az _,by simp[maxLen],λ_=>jC,c.2,λe m=>by simp at m,.inl ⟨rfl,trivial⟩⟩,λR F=>by simp at F⟩),rfl⟩
 ·rename_i b j
  split at g
  ·rename_i v p;cases g;obtain⟨T,D,hB,L,P⟩:=h.bx b v p;obtain⟨a,o,n,A,C,q,_,_,t,_⟩:=h.Bh (rowsOf v);obtain⟨U,N,i,S,y⟩:=o.bx b v (by rw[t];exact p);have c:N=D:=by
    rw[n]at i;have m:=iF (i.symm.trans hB)
    injection m with m
    simpa using congrArg Array.toList m
   exact⟨a,o.gl i y (c▸KZ C n A q (λr j=>j) L),n⟩
  ·cases g;exact⟨l,h,rfl⟩
 ·cases g;exact⟨l,h,rfl⟩
end
end
section
open Go.RowKit
section
variable {h0:Nat->Nat} {io:M Nat} {w0:World} {f:Fm} {w:World}
theorem Inv.after{c:Gh}{s:St}(n:Inv c h0 io w0 s f w){C h':Nat->Nat}{F mv bs:M Nat}{v:World}(l:Bw C F w v h')(H:∀g,c.h g<=C g)(N:∀g∈F,(∃r∈mv,c.ω g=.row r)\/∃b∈bs,c.ω g=.box b)(Q:∀r∈mv,look s.rw r=O)(S:∀b∈bs,look s.bx b=O)
  (X:∀g∈F,∀b,c.ω g=.box b->h' g=0) :
  uC c (λo=>(∃r∈mv,o=.row r)\/∃b∈bs,o=.box b) w v/\
  ∃d,Inv d h0 io w0 s f v/\d.β=c.β/\d.sl=c.sl/\(∀g,c.h g<=d.h g)/\(∀g,g < w.heap.size->g∉F->d.h g=c.h g)/\(∀g,w.heap.size<=g\/g∈F->d.h g=h' g)/\(∀g∈F,(∃r∈mv,c.ω g=.row r)->d.ω g=.ej)/\(∀g b,c.ω g=.box b->d.ω g=.box b)/\(∀g,w.heap.size<=g->d.ω g=.free):=by
 have t:∀g∈F,(∃r∈mv,c.ω g=.row r)\/∃b∈bs,c.ω g=.box b:=N;have P:uC c (λo=>(∃r∈mv,o=.row r)\/∃b∈bs,o=.box b) w v:={
  os:=l.os,tape:=l.tape,output:=l.output,size:=l.size
  block:=λg a R=>l.block g a (λy=>R (t g y))
  cell:=λg j V=>by
   have a:g < w.heap.size:=by
    rcases dH g w.heap.size with h|h
    ·exact h
    ·have:=n.fW g h;omega
   exact l.cell g j a (bR V (H g))
  fX:=l.fX }
 have U:=n.Pq P (by rintro (⟨r,_,h⟩|⟨b,_,h⟩)<;>cases h) (λb h=>by
   rcases h with ⟨r,_,h⟩|⟨L,G,h⟩
   ·cases h
   ·cases h;exact S b G) (λr h=>by
   rcases h with ⟨Y,D,h⟩|⟨L,_,h⟩
   ·cases h;exact Q r D
   ·cases h)
 have p:∀g∈F,(∀b K,look s.bx b=Z K->c.ω g≠.box b)/\∀r x,look s.rw r=Z x->c.ω g≠.row r:=by
  intro g a;rcases t g a with ⟨r,D,h⟩|⟨b,G,h⟩
  ·refine⟨λb K _=>by rw[h];simp,λq x A=>?_⟩;rw[h];intro e;cases e;rw[Q r D]at A;cases A
  ·refine⟨λL K A=>?_,λq x _=>by rw[h];simp⟩;rw[h];intro e;cases e;rw[S b G]at A;cases A
 refine⟨P,?_⟩;have i2:=U.settle (h':=λg=>if g < w.heap.size/\g∉F then c.h g else h' g) (ω':=λg=>match c.ω g with | .row r=>if r∈mv/\g∈F then .ej else .row r|o=>o)
  (λg=>by
   split
   ·exact az _
   ·rename_i R;rcases dH g w.heap.size with h|h
    ·exact aH (H g) (l.mono g h)
    ·rw[n.fW g h];omega)
  (λg a=>by
   by_cases k:g < w.heap.size/\g∉F
   ·simp[k]at a
   ·simp only[if_neg k]at a;rcases dH g w.heap.size with h|h
    ·have y:g∈F:=by
      rcases jL (g∈F) with i|i
      ·exact i
      ·exact absurd ⟨h,i⟩ k
     have T:c.ω g≠.free:=by rcases t g y with ⟨r,_,h⟩|⟨b,_,h⟩<;>rw[h]<;>simp
     exact⟨bR h l.size,(n.own g T).2,p g y⟩
    ·have W:g < v.heap.size:=by
      rcases dH g v.heap.size with i|i
      ·exact i
      ·exact absurd (by rw[l.fW g i,n.fW g h]) a
     have B:=n.rX h;exact⟨W,.inl (aH n.size h),λ_ _ _=>by rw[B];simp,λ_ _ _=>by rw[B];simp⟩)
  (λg=>by
   cases m:c.ω g with
   |row r=>
    simp only
    by_cases k:r∈mv/\g∈F
    ·rw[if_pos k];have:=p g k.2;rw[m]at this;exact .inr ⟨.inr rfl,by simp,this⟩
    ·rw[if_neg k];exact .inl rfl
   |_=>exact .inl rfl)
  (λg b a=>by
   have m:c.ω g=.box b:=by
    cases m:c.ω g with
    |row r=>
     rw[m]at a;simp only at a
     split at a<;>cases a
    |free=>rw[m]at a;cases a
    |ej=>rw[m]at a;cases a
    |box L=>rw[m]at a;exact a
   by_cases k:g < w.heap.size/\g∉F
   ·simp only[if_pos k];exact n.nS g b m
   ·simp only[if_neg k];rcases dH g w.heap.size with h|h
    ·have y:g∈F:=by
      rcases jL (g∈F) with i|i
      ·exact i
      ·exact absurd ⟨h,i⟩ k
     exact X g y b m
    ·rw[n.rX h]at m;cases m)
 refine⟨_,i2,rfl,rfl,λg=>?_,λg C i=>by simp[C,i],λg a=>?_,λg a ⟨r,D,h⟩=>by simp[h,D,a],λg b h=>by simp[h],λg a=>by simp[n.rX a]⟩
 ·dsimp only;split
  ·exact az _
  ·rcases dH g w.heap.size with h|h
   ·exact aH (H g) (l.mono g h)
   ·rw[n.fW g h];omega
 ·have k:¬(g < w.heap.size/\g∉F):=by
   rintro⟨C,i⟩
   rcases a with h|h
   ·omega
   ·exact i h
  simp only[if_neg k]
theorem pz.re{h i:Nat->Nat}{x:Row}{v:Value}{F:M Nat}(B:pz h w x v F)(e:∀g∈F,i g=h g)(a:x.deep=I\/∀g,h g<=i g):pz i w x v F:=by
 obtain⟨A,n,c,q1,q2,t,s,r,q,p,d⟩:=B;refine⟨A,n,c,q1,q2,t,s,r,q,p,?_⟩;rcases d with d|⟨g,o,m,G,a1,a2,a3,a4,a5,K,H,D,a9,b⟩
 ·exact .inl d
 ·have k:g∈F:=by
   cases hd:x.deep with
   |true=>rw[(a9 hd).1];simp
   |false=>rw[(b hd).1];simp
  refine .inr ⟨g,o,m,G,a1,a2,a3,a4,a5,by rw[e g k];exact K,λy=>by rw[e g k];exact H y,D,λhd=>⟨(a9 hd).1,λj l=>?_⟩,λhd=>⟨(b hd).1,?_⟩⟩
  ·have C:j.1∈F:=by rw[(a9 hd).1];simp;exact .inr ⟨j.2,l⟩
   rw[e _ C];exact (a9 hd).2 j l
  ·rcases a with a|a
   ·rw[hd]at a;cases a
   ·exact (b hd).2.mono a
theorem jd.re{h m:Nat->Nat}:∀{c:M RV} {p:M Value} {F:M Nat},jd h w c p F->(∀g∈F,m g=h g)->(c.all RV.closed=I\/∀g,h g<=m g)->jd m w c p F
 |[],_,_,b,_,_=>by simpa only [jd] using b
 | .d x::c,_,_,b,e,a=>by
  simp only[jd,GD]at b ⊢;obtain⟨v,n,q,o,rfl,rfl,⟨rfl,G,i,l⟩,k⟩:=b;refine⟨v,n,[],o,rfl,rfl,⟨rfl,G,i,?_⟩,jd.re k (by simpa using e) (a.imp (λh=>by simp at h ⊢;exact h.2) id)⟩;rcases a with a|a
  ·simp only[cV,ai,RV.closed]at a;have:fE w [x] [v] G:=by simp only[fE];exact⟨v,[],G,[],rfl,by simp,i,rfl,rfl⟩
   have r:G=[]:=this.plain (by simp[a.1]);subst r;exact λ_ h=>by simp at h
  ·exact l.mono a
 | .row x::c,_,_,b,e,a=>by
  simp only[jd,GD]at b ⊢;obtain⟨v,n,q,o,rfl,rfl,⟨i,l⟩,k⟩:=b;refine⟨v,n,q,o,rfl,rfl,⟨i.re (λg j=>e g (by simp[j])) (a.imp (λh=>by simp[RV.closed]at h;exact h.1) id),l⟩,jd.re k (λg j=>e g (by simp[j])) (a.imp (λh=>by simp at h ⊢;exact h.2) id)⟩
theorem mT.re{h n:Nat->Nat}:∀{c:M A} {q:M Value} {F:M Nat},mT h w c q F->(∀g∈F,n g=h g)->(c.all A.closed=I\/∀g,h g<=n g)->mT n w c q F
 |[],_,_,a,_,_=>by simpa only [mT] using a
 | .val B cs::c,_,_,a,b,e=>by
  simp only[mT,AR]at a ⊢;obtain⟨v,o,r,p,rfl,rfl,⟨i,l,k⟩,j⟩:=a;exact⟨v,o,r,p,rfl,rfl,⟨i,l.re (λg d=>b g (by simp[d])) (e.imp (λh=>by simp only[cV,ai,A.closed]at h;exact h.1) id),k⟩,mT.re j (λg d=>b g (by simp[d])) (e.imp (λh=>by simp only[cV,ai]at h;exact h.2) id)⟩
 | .box cs::c,_,_,a,b,e=>by
  simp only[mT,AR]at a ⊢;obtain⟨v,o,r,p,rfl,rfl,⟨g,T,i,s,x,m,l,rfl,k⟩,j⟩:=a;refine⟨v,o,g::s,p,rfl,rfl,⟨g,T,i,s,x,m,by rw[b g (by simp)];exact l,rfl,k.re (λy t=>b y (by simp[t])) (e.imp (λh=>by simp only[cV,ai,A.closed]at h;exact h.1) id)⟩,mT.re j (λg d=>b g (by simp[d])) (e.imp (λh=>by simp only[cV,ai]at h;exact h.2) id)⟩
theorem AR.ptr{h:Nat->Nat}{a:A}{g:Nat}{F:M Nat}(i:AR h w a (.pointer (Z ⟨g,0,O⟩)) F):(∃b,a=.box b)/\h g=0/\g∈F:=by
 cases a with
 |val s b=>
  simp only[AR]at i;obtain⟨o,l,q,k⟩:=i;cases s with
  |true=>cases q rfl
  |false=>
   have:=k rfl;subst this;cases b with
   |nil=>simp[jd]at l
   |cons r t=>
    simp only[jd]at l;obtain⟨v,B,D,C,e,_,j,_⟩:=l;simp only[bY]at e;rw[<- e.1]at j;cases r with
    |d x=>
     obtain⟨_,G,m,_⟩:=j;have:=m.qZ;cases x<;>simp[Rp]at m
    |row x=>
     obtain⟨A,n,c,p⟩:=j.1.slice;cases p
 |box b=>
  simp only[AR]at i;obtain⟨y,T,o,H,e,_,k,rfl,_⟩:=i;simp only[Value.pointer.injEq,aa,Addr.mk.injEq,and_true]at e;subst e;exact⟨⟨b,rfl⟩,k,by simp⟩
theorem mT.ptr{h:Nat->Nat}:∀{as:M A} {i:M Value} {F:M Nat},mT h w as i F->∀g,Value.pointer (Z ⟨g,0,O⟩)∈i->h g=0/\g∈F
 |[],_,_,c,g,b=>by simp only[mT]at c;rw[c.1]at b;simp at b
 |a::as,_,_,c,g,b=>by
  simp only[mT]at c;obtain⟨v,l,n,m,rfl,rfl,k,j⟩:=c;rcases aI.1 b with rfl|b
  ·obtain⟨_,e,d⟩:=k.ptr;exact⟨e,by simp[d]⟩
  ·obtain⟨e,d⟩:=mT.ptr j g b;exact⟨e,by simp[d]⟩
def GC(β:Nat->Nat):M C->M Value->Prop
 |[],a=>a=[]
 |c::cs,a=>∃v d,a=v::d/\(∀b,c=.ptr b 0->v=.pointer (Z ⟨β b,0,O⟩))/\GC β cs d
theorem fu.Te{d:Gh}:∀{a:M C} {g:M Value},fu d w a g->GC d.β a g
 |[],_,h=>by simpa only [fu,GC] using h
 |c::a,_,h=>by
  simp only[fu]at h;obtain⟨v,k,rfl,j,i⟩:=h;simp only[GC];exact⟨v,k,rfl,λb e=>by subst e;simpa only [CR] using j,fu.Te i⟩
theorem Bo:∀(m:M C) {as outs:M A} {vs:M Value} {F:M Nat} {j:Gh} {s s':St},Inv j h0 io w0 s f w->GC j.β m vs->zP s' m=Z as->mT j.h w outs (iA as vs) F->F.Nodup->(∀g∈F,(j.ω g=.free\/j.ω g=.ej\/Value.pointer (Z ⟨g,0,O⟩)∈iA as vs)/\g < w.heap.size/\(w0.heap.size<=g\/g∈io))->
  (∀b∈cX m,j.ω (j.β b)=.box b)->∃k,Inv k h0 io w0 (l8 s m outs) f w/\k.β=j.β/\k.h=j.h/\∀g,g∉F->k.ω g=j.ω g
 |[],as,outs,vs,F,j,s,s',G,_,_,_,_,_,_=>⟨j,by simpa [l8] using G,rfl,rfl,λ_ _=>rfl⟩
 |c::m,as,outs,vs,F,j,s,s',G,V,p,r,L,t,q=>by
  simp only[GC]at V;obtain⟨v,fC,rfl,x,S⟩:=V;simp only[zP]at p
  split at p
  ·rename_i a n;simp only[aj]at p;obtain⟨Ps,p,rfl⟩:=p;by_cases N:∃b,c=.ptr b 0
   ·obtain⟨b,rfl⟩:=N;have nS:∃l,a=.box l:=by
     simp only[Tt]at n
     split at n
     ·simp only[aj]at n;obtain⟨l,_,rfl⟩:=n;exact⟨l,rfl⟩
     ·cases n
    obtain⟨l,rfl⟩:=nS;simp only[iA]at r t;have x:=x b rfl;cases outs with
    |nil=>simp[mT]at r
    |cons o outs=>
     simp only[mT]at r;obtain⟨v0,ovs,F1,F2,e,rfl,H,W⟩:=r;simp only[bY]at e;obtain⟨rfl,rfl⟩:=e;rw[x]at H;obtain⟨⟨TH,rfl⟩,hz,hgm⟩:=H.ptr;simp only[AR]at H;obtain⟨g,T,us,F',e,hB,BH,rfl,uo⟩:=H;simp only[Value.pointer.injEq,aa,Addr.mk.injEq,and_true]at e;subst e;rw[bH]at L;obtain⟨yq,LC,K⟩:=L;obtain⟨y,R⟩:=cx.1 yq;have VJ:∀g∈F',j.ω g=.free\/j.ω g=.ej:=by
      intro g i;rcases (t g (by simp[i])).1 with h|h|h
      ·exact .inl h
      ·exact .inr h
      ·exfalso
       rcases aI.1 h with h|h
       ·rw[x]at h;simp only[Value.pointer.injEq,aa,Addr.mk.injEq,and_true]at h;exact y (h▸i)
       ·have:=(mT.ptr W g h).2;exact K g (by simp[i]) g this rfl
     obtain⟨U,i1,c1,B,Y,D,s1⟩:=oK (d:=b+500) TH 0 G uo R (λg i=>⟨VJ g i,(t g (by simp[i])).2⟩);have Q:U.ω (U.β b)=.box b:=by
      rw[B,D _ y];exact q b (by simp[cX])
     have i2:=i1.gl (b:=b) (by rw[B];exact hB) Q c1;have P:∀g,g∈F2->g∉F':=λg i h=>K g (by simp[h]) g i rfl;obtain⟨my,i3,b3,h3,o3⟩:=Bo m (as:=Ps) (outs:=outs) (vs:=fC) (F:=F2) i2 (by rw[B];exact S) p (by rw[Y];exact W) LC (λg i=>by
      obtain⟨k1,k2⟩:=t g (by simp[i]);refine⟨?_,k2⟩;rw[D g (P g i)];rcases k1 with h|h|h
      ·exact .inl h
      ·exact .inr (.inl h)
      ·rcases aI.1 h with h|h
       ·exfalso
        rw[x]at h;simp only[Value.pointer.injEq,aa,Addr.mk.injEq,and_true]at h;exact K g (by simp[h]) g i rfl
       ·exact .inr (.inr h)) (λb' lK=>by
      have CA:=q b' (by simp[cX,lK]);rw[B,D]
      ·exact CA
      ·intro hm;rcases VJ _ hm with h|h<;>rw[CA]at h<;>cases h)
     refine⟨my,by simpa [l8] using i3,b3.trans B,h3.trans Y,λg i=>?_⟩;simp only[aT,aI,not_or]at i;rw[o3 g i.2,D g i.1.2]
   ·have B_:∃X l,a=.val X l:=by
     unfold Tt at n
     split at n
     ·rename_i b;exact absurd ⟨b,rfl⟩ N
     ·simp only[aj]at n;obtain⟨l,_,rfl⟩:=n;exact⟨_,l,rfl⟩
    obtain⟨X,l,rfl⟩:=B_;simp only[iA]at r t;have e:l8 s (c::m) outs=l8 s m outs:=by
     cases c with
     |ptr b o=>
      cases o with
      |zero=>exact absurd ⟨b,rfl⟩ N
      |succ o=>simp[l8]
     |_=>simp[l8]
    rw[e];exact Bo m G S p r L t (λb hb=>q b (by cases c<;>simp[cX,hb]))
  ·cases p
theorem zF{d:Nat}:∀(l:M A) {o:M Value} {F:M Nat} (q:Nat) {c:Gh} {s:St},Inv c h0 io w0 s f w->mT c.h w l o F->F.Nodup->(∀g∈F,(c.ω g=.free\/c.ω g=.ej)/\g < w.heap.size/\(w0.heap.size<=g\/g∈io))->(∀a∈l,∃x m,a=.val x m/\m.length<=30)->
  ∃b,Inv b h0 io w0 (gL d q l s).2 f w/\fu b w (gL d q l s).1 o/\b.β=c.β/\b.h=c.h/\∀r,(∀i,30 * q<=i->r≠w8 d i)->b.sl r=c.sl r
 |[],o,F,q,c,s,k,e,_,_,_=>by
  simp only[mT]at e;obtain⟨rfl,rfl⟩:=e;exact⟨c,by simpa [gL] using k,by simp[gL,fu],rfl,rfl,λ_ _=>rfl⟩
 |a::l,o,F,q,c,s,k,e,C,H,D=>by
  obtain⟨x,m,rfl,G⟩:=D a (by simp);simp only[mT,AR]at e;obtain⟨v,fC,F1,F2,rfl,rfl,⟨y,K,h4,h5⟩,Y⟩:=e;rw[bH]at C;obtain⟨P,LC,R⟩:=C;have U:=K.length;obtain⟨oT,T,c1,b1,N,S,Q⟩:=tq (d:=d) m (30 * q) k K P (λg p=>H g (by simp[p]));obtain⟨t,i2,c2,b2,L,B⟩:=zF l (q+1) T (by rw[N];exact Y) LC (λg p=>by
   rw[S g (λh=>R g h g p rfl)];exact H g (by simp[p])) (λa X=>D a (by simp[X]))
  have n:fu t w (fv d (30 * q) m s).1 y:=by
   refine c1 t (by rw[L]) (λj W V=>B _ (λi k=>OF (by omega)))
  refine⟨t,i2,?_,b2.trans b1,L.trans N,λr e=>?_⟩
  ·simp only[gL,fu];refine⟨v,fC,rfl,?_,c2⟩;cases x with
   |true=>
    rw[h4 rfl];simp only[if_true,CR];exact⟨y,rfl,n⟩
   |false=>
    simp only[aD,if_false];have:=h5 rfl;subst this;exact Az n
  ·rw[B r (λi k=>e i (by omega)),Q r (λi k=>e i k)]
end
end
end Go.Proofs.YtgfcijiikgjbcaaGreatDoor
