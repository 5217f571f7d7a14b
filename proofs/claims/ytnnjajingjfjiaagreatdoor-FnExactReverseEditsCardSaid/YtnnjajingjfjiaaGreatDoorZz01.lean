/- Part of the proof: a machine over plain data, its proof, the functions of the program run on symbols, what they answer. Condition: none. -/
import Derived.WalkKit
import Derived.WalkSpells
import Derived.WalkLawsBesides
import Derived.Deep.LoopGhost
import Derived.OrdersHeld
import Derived.Lib.ItoaNum
import Derived.Lib.Bytealg
import Derived.Lib.LaidTab
import Derived.Laws.Tables
set_option linter.unusedVariables false
set_option linter.unusedSimpArgs false
open Array renaming length_toList->eQ,toList_map->mP,getElem?_eq_getElem->mV,replicate->ru,getElem?_eq_none->xi,toArray_toList->zq
open Bool renaming and_eq_true->ai,false_eq_true->aF,not_eq_true'->cq,eq_iff_iff->cR,or_eq_true->da,true->I,false->J
open Decidable renaming em->jK,decide->Z'
open Go renaming sizeOf->mW
open Int renaming neg_neg->vd
open List renaming cons_append->au,nil_append->av,length_map->ay,length_cons->aH,length_nil->aJ,append_nil->aK,mem_cons->aL,take_length->aR,map_cons->aW,length_take->aY,mem_append->ba,length_append->bh,replicate->bn,getElem?_eq_some_iff->bq,all_eq_true->bw,append_assoc->bB,map_nil->bD,take_append_drop->bI,nodup_append->bM,map_append->bN,mem_map->cj,take_succ_cons->cn,mem_of_mem_take->cr,eq_nil_of_length_eq_zero->cy,nodup_cons->cC,length_eq_zero_iff->cH,mem_map_of_mem->cJ,getElem?_take->cS,mem_singleton->cT,all_cons->cX,getElem?_append_right->cY,getElem?_append_left->dr,length_drop->dH,length_eq_one_iff->dP,mem_of_getElem?->dS,ext_getElem?->eE,flatten_cons->eH,mem_of_mem_drop->fc,getElem?_drop->fI,drop_of_length_le->fN,replicate_succ->gE,mem_or_eq_of_mem_set->gL,filter_cons->gZ,getElem?_eq_none->jA,getElem?_set->jT,flatMap_cons->l7,filter_filter->n7,drop_drop->oP,size_toArray->oQ,take_left->oR,take_one->pW,head?_drop->ry,length_set->rz,foldl_cons->xN,drop_left->zr,getElem?_append->zu
open List.cons renaming injEq->cl
open Nat renaming le_refl->aD,le_trans->aG,zero_add->bo,lt_of_lt_of_le->bR,add_zero->cd,min_eq_left->cE,add_assoc->cQ,lt_or_ge->dD,mul_le_mul_right->fJ,blt->fV,beq->gR,zero_le->jt,succ_mul->j5,add_mul->lu,eq_of_beq_eq_true->l8,ble->n8,blt_eq->oh,zero_mul->sq,add_sub_cancel_left->vF
open Ne renaming symm->m_
open Option renaming map_eq_some_iff->ak,isSome_iff_exists->cD,bind_some->dW,isNone_iff_eq_none->tt,some->Z,none->O
open Option.some renaming injEq->ae,inj->ey
open Prod renaming fst->cz,snd->th
open Prod.mk renaming injEq->aI
open UInt8 renaming ofNat->dz
namespace Go.Proofs.YtnnjajingjfjiaaGreatDoor
abbrev M.{v}(α:Type v):=List α
abbrev u.{v}(α:Type v):=Option α
abbrev z:=ByteArray
section
open Go.RowKit
inductive V where
 |int (n:Int)
 |bool (b:Bool)
 |str (s:ByteArray)
 |list (xs:List V)
 |agg (fs:List V)
mutual
def V.cnt:V->Nat
 | .int _=>1
 | .bool _=>1
 | .str _=>1
 | .list xs=>V.ael xs+1
 | .agg fs=>V.ael fs+1
def V.ael:List V->Nat
 |[]=>0
 |f::fs=>V.cnt f+V.ael fs+1
end
def iA(w:World)(b o:Nat)(c:M Value):Prop:=∀j a,c[j]?=Z a->w.cell? ⟨b,o+j,O⟩=Z a
theorem qG(b o n:Nat):(⟨b,o,O⟩:Addr).add n=⟨b,o+n,O⟩:=by
 unfold Addr.add;split
 ·rename_i h;subst h;rfl
 ·rfl
theorem iA.dF{w c:World}{b o:Nat}{d:M Value}(h:iA w b o d)(f:c.heap[b]?=w.heap[b]?):iA c b o d:=by
 intro j a e;rw[World.cell?_of_block (w:=w) f];exact h j a e
theorem iA.sub{w:World}{b o:Nat}{d:M Value}(h:iA w b o d)(j k:Nat):iA w b (o+j) ((d.drop j).take k):=by
 intro i a c;rw[cS]at c
 split at c
 ·rw[fI]at c;rw[cQ];exact h _ a c
 ·cases c
theorem Jd{w:World}{b:Nat}{o:Obj}(h:w.heap[b]?=Z o):b < w.heap.size:=by
 rcases dD b w.heap.size with a|a
 ·exact a
 ·simp[xi a]at h
theorem Lr{w a:World}{b:Nat}(d:b < w.heap.size)(c:a.heap[b]?=w.heap[b]?):b < a.heap.size:=by
 rw[mV d]at c;exact Jd c
structure CJ (B:Nat) (w w':World):Prop extends Below B w w' where
 H0:∀g,B<=g->∀o,w'.frozen? ⟨g,o,none⟩=false
theorem yJ{w:World}{g:Nat}(h:w.heap.size<=g)(o:Nat):w.frozen? ⟨g,o,O⟩=J:=by
 simp[World.frozen?,xi h]
theorem MR(w:World):CJ w.heap.size w w:=⟨Below.refl _ _,λ_ a o=>yJ a o⟩
theorem CJ.drew{B:Nat}{a w:World}(h:CJ B a w):CJ B a w.drew:=⟨h.toBelow.drew,h.H0⟩
theorem MQ{B:Nat}{a w d:World}(h:CJ B a w)(c:CJ w.heap.size w d)(hB:B<=w.heap.size):CJ B a d:=by
 refine⟨h.toBelow.trans (c.toBelow.mono hB),λg e o=>?_⟩;rcases dD g w.heap.size with b|b
 ·rw[World.frozen?_of_block (w:=w) (c.block g b)];exact h.H0 g e o
 ·exact c.H0 g b o
theorem xk(w:World)(a:Array Value)(t:TypeId):CJ w.heap.size w (w.alloc (.cells a t)):=by
 refine⟨(Below.refl _ _).alloc (aD _) _,λg b o=>?_⟩;by_cases e:g=w.heap.size
 ·subst e;unfold World.frozen?;simp only[heap_alloc_new];simp
 ·exact yJ (by simp;omega) o
def kJ(w:World)(g:Nat)(t:TypeId)(a:M Value):Prop:=w.heap[g]?=Z (.cells a.toArray t (0,0))
def gy(w:World)(g:Nat)(o:Obj):World:={w with heap:=w.heap.setIfInBounds g o }
section
variable {w w':World} {g:Nat} {t:TypeId} {cs:M Value}
theorem kJ.lt(h:kJ w g t cs):g < w.heap.size:=Jd h
theorem kJ.cell(h:kJ w g t cs)(i:Nat):w.cell? ⟨g,i,O⟩=cs[i]?:=by
 unfold kJ at h;simp[World.cell?,h]
theorem kJ.QR(h:kJ w g t cs):iA w g 0 cs:=by
 intro j a b;rw[bo,h.cell,b]
theorem kJ.frozen(h:kJ w g t cs)(i:Nat):w.frozen? ⟨g,i,O⟩=J:=by
 unfold kJ at h;simp[World.frozen?,h]
theorem kJ.new(w:World)(t:TypeId)(cs:M Value):kJ (w.alloc (.cells cs.toArray t)) w.heap.size t cs:=by
 unfold kJ;exact heap_alloc_new w _
theorem kJ.dF(h:kJ w g t cs)(a:w'.heap[g]?=w.heap[g]?):kJ w' g t cs:=a.trans h
theorem kJ.alloc(h:kJ w g t cs)(o:Obj):kJ (w.alloc o) g t cs:=h.dF (Below.heap_alloc w o g h.lt)
theorem US(w:World)(g:Nat)(o:Obj)(k:Nat)(h:k≠g):(gy w g o).heap[k]?=w.heap[k]?:=by
 simp[gy,Array.getElem?_setIfInBounds_ne (m_ h)]
theorem gh(w:World)(g:Nat)(o:Obj):(gy w g o).heap.size=w.heap.size:=by simp[gy]
theorem kJ.iq(h:kJ w g t cs)(a:TypeId)(b:M Value):kJ (gy w g (.cells b.toArray a (0,0))) g a b:=by
 unfold kJ gy;simp[h.lt]
theorem C9(h:kJ w g t cs)(i:Nat)(v:Value):w.setCell ⟨g,i,O⟩ v=gy w g (.cells (cs.set i v).toArray t (0,0)):=by
 unfold World.setCell gy
 congr 1
 apply Array.ext
 ·simp
 ·intro k a c;simp only[Array.size_modify]at a;simp only[Array.getElem_modify];split
  ·rename_i e;subst e;have b:w.heap[g]'a=.cells cs.toArray t (0,0):=by
    have:=h;unfold kJ at this;rw[mV a]at this;exact ey this
   rw[b];simp
  ·rename_i e;rw[Array.getElem_setIfInBounds_ne _ e]
end
theorem kJ.drew{w:World}{g:Nat}{t:TypeId}{a:M Value}(h:kJ w g t a):kJ w.drew g t a:=h
theorem size_alloc(w:World)(o:Obj):(w.alloc o).heap.size=w.heap.size+1:=by simp
end
section
open Go.RowKit
abbrev Fm:=Nat->Value
def Dj(f:Fm)(d:Nat)(v:Value):Fm:=λi=>cond (gR i d) v (f i)
def fr(f:Fm)(N:Nat):Act:=⟨Array.ofFn (λi:Fin N=>f i.val),[]⟩
theorem uu(f:Fm)(N d:Nat)(v:Value):(fr f N).put (Z d) v=fr (Dj f d v) N:=by
 have e:(Array.ofFn (λi:Fin N=>f i.val)).setIfInBounds d v=Array.ofFn (λi:Fin N=>Dj f d v i.val):=by
  apply Array.ext
  ·simp
  ·intro i g a;simp only[Array.size_ofFn]at a;rw[Array.getElem_setIfInBounds (by simpa using a)];simp only[Array.getElem_ofFn,Dj];by_cases h:d=i
   ·subst h;simp
   ·have c:gR i d=J:=by
     cases b:gR i d
     ·rfl
     ·exact absurd (l8 b).symm h
    simp[h,c]
 exact congrArg (λt=>Act.mk t []) e
theorem DR(f:Fm){N d:Nat}(hd:d < N):(fr f N).eval (.tmp d)=f d:=by
 simp[fr,Act.eval,hd]
theorem et{f:Fm}{N d:Nat}{v:Value}(h:f d=v)(hd:fV d N=I:=by rfl):(fr f N).eval (.tmp d)=v:=by
 rw[DR f (by simpa using hd)];exact h
theorem ec{f:Fm}{N:Nat}{v:Value}:(fr f N).eval (.const v)=v:=rfl
def VT(N:Nat)(c:Fm->World->Prop)(d:Nat->Fm->World->Prop)(b:Fm->World->Prop):Exit->Act->World->Prop
 | .normal,a,w=>∃f,a=fr f N/\c f w
 | .exit id,a,w=>∃f,a=fr f N/\d id f w
 | .ret,a,w=>∃f,a=fr f N/\b f w
 |_,_,_=>False
def W(P:Program)(N:Nat)(c:Code)(b:Fm->World->Prop)(d:Nat->Fm->World->Prop)(a:Fm->World->Prop)(f:Fm)(w:World):Prop:=
 c.wp P (VT N b d a) (fr f N) w
def Ls(P:Program)(N:Nat)(a:Array Oper)(b:Fm->World->Prop)(rest:M Oper)(f:Fm)(w:World):Prop:=
 wpList P a (VT N b (λ_ _ _=>False) (λ_ _=>False)) rest (fr f N) w
def rM(N:Nat)(a:Array Oper)(f:Fm)(g:u (Nat×Bool)):Prop:=
 Region.wanted {(default:Oper) with guard:=g } (yielded a (fr f N).tmps)=I
theorem wn{N:Nat}{a:Array Oper}{f:Fm}:rM N a f O:=rfl
theorem Hu{N:Nat}{a:Array Oper}{f:Fm}{j c:Nat}(d:(a[j]?).bind (·.dst)=Z c)(hd:fV c N=I)(b:Bool)(e:f c=.bool b):yielded a (fr f N).tmps j=Z b:=by
 have g:c < N:=by simpa using hd
 simp[yielded,d,fr,g,e]
theorem R3{N:Nat}{a:Array Oper}{f:Fm}{j b:Nat}(c:(a[j]?).bind (·.dst)=Z b)(hd:fV b N=I)(d:f b=undef):yielded a (fr f N).tmps j=O:=by
 have e:b < N:=by simpa using hd
 simp[yielded,c,fr,e,d,undef]
theorem wy{N:Nat}{a:Array Oper}{f:Fm}{j b:Nat}{want:Bool}(d:f b=.bool want)(c:(a[j]?).bind (·.dst)=Z b:=by rfl)(hd:fV b N=I:=by rfl):rM N a f (Z (j,want)):=by
 simp[rM,Region.wanted,Hu c hd want d]
theorem rM.to{N:Nat}{a:Array Oper}{f:Fm}{gd:u (Nat×Bool)}(h:rM N a f gd)(c:u Tmp)(op:Op)(e:TypeId)(b:String)(d:Array Edge):Region.wanted ⟨c,op,e,b,d,gd⟩ (yielded a (fr f N).tmps)=I:=h
def jB(N:Nat)(a:Array Oper)(f:Fm)(g:u (Nat×Bool)):Prop:=
 Region.wanted {(default:Oper) with guard:=g } (yielded a (fr f N).tmps)=J
theorem jB.to{N:Nat}{a:Array Oper}{f:Fm}{gd:u (Nat×Bool)}(h:jB N a f gd)(c:u Tmp)(op:Op)(e:TypeId)(b:String)(d:Array Edge):¬Region.wanted ⟨c,op,e,b,d,gd⟩ (yielded a (fr f N).tmps)=I:=by
 have g:Region.wanted ⟨c,op,e,b,d,gd⟩ (yielded a (fr f N).tmps)=J:=h;rw[g];simp
theorem wx{N:Nat}{a:Array Oper}{f:Fm}{j b:Nat}{want:Bool}(d:f b=.bool (!want))(c:(a[j]?).bind (·.dst)=Z b:=by rfl)(hd:fV b N=I:=by rfl):jB N a f (Z (j,want)):=by
 simp[jB,Region.wanted,Hu c hd _ d]
theorem wu{N:Nat}{a:Array Oper}{f:Fm}{j b:Nat}{want:Bool}(d:f b=undef)(c:(a[j]?).bind (·.dst)=Z b:=by rfl)(hd:fV b N=I:=by rfl):jB N a f (Z (j,want)):=by
 simp[jB,Region.wanted,R3 c hd d]
section rules
variable {P:Program} {N:Nat} {Kn:Fm->World->Prop} {Ke:Nat->Fm->World->Prop} {Kr:Fm->World->Prop} {f:Fm} {w:World}
theorem jR{x y:Code}(h:W P N x (λf w=>W P N y Kn Ke Kr f w) Ke Kr f w):W P N (.seq x y) Kn Ke Kr f w:=by
 refine wp_seq (wp_mono h ?_);intro e a w b;cases e with
 |normal=>obtain⟨g,rfl,d⟩:=b;exact d
 |exit id=>exact b
 |ret=>exact b
 |goto l=>exact b.elim
 |panic c=>exact b.elim
 |outgrown=>exact b.elim
theorem zm(h:Kn f w):W P N .skip Kn Ke Kr f w:=wp_skip ⟨f,rfl,h⟩
theorem JE(h:Kr f w):W P N .ret Kn Ke Kr f w:=wp_ret ⟨f,rfl,h⟩
theorem Mn{id:Nat}(h:Ke id f w):W P N (.exit id) Kn Ke Kr f w:=wp_exit ⟨f,rfl,h⟩
theorem CB{c:Operand}{x y:Code}(a:(fr f N).eval c=.bool I)(h:W P N x Kn Ke Kr f w):W P N (.cond c x y) Kn Ke Kr f w:=wp_cond a h
theorem zk{c:Operand}{x y:Code}(a:(fr f N).eval c=.bool J)(h:W P N y Kn Ke Kr f w):W P N (.cond c x y) Kn Ke Kr f w:=wp_cond a h
theorem xL{id:Nat}{c:Code}(h:W P N c Kn (λb f w=>if b=id then Kn f w else Ke b f w) Kr f w):W P N (.block id c) Kn Ke Kr f w:=by
 refine wp_block (wp_mono h ?_);intro e a w d;cases e with
 |normal=>exact d
 |ret=>exact d
 |exit b=>
  obtain⟨j,rfl,g⟩:=d;simp only[Exit.inBlock]
  split at g
  ·rename_i i;rw[if_pos i];exact⟨j,rfl,g⟩
  ·rename_i i;rw[if_neg i];exact⟨j,rfl,g⟩
 |goto l=>exact d.elim
 |panic c=>exact d.elim
 |outgrown=>exact d.elim
theorem Mo{c:Code}(b:Nat->Fm->World->Prop)(n0:Nat)(o:b n0 f w)
  (round:∀n f w,b n f w->W P N c (λi j=>∃g,g < n/\b g i j) Ke Kr f w):W P N (.loop c) Kn Ke Kr f w:=by
 refine wp_loop_ghost (λn a w=>∃f,a=fr f N/\b n f w) n0 ⟨f,rfl,o⟩ ?_
 rintro n a w ⟨f,rfl,m⟩
 refine wp_mono (round n f w m) ?_;intro e a w d;cases e with
 |normal=>obtain⟨i,rfl,g,k,h⟩:=d;exact⟨g,k,i,rfl,h⟩
 |exit id=>exact d
 |ret=>exact d
 |goto l=>exact d.elim
 |panic c=>exact d.elim
 |outgrown=>exact d.elim
theorem fg{id:Nat}{l:M Oper}(h:Ls P N l.toArray Kn l f w):W P N (.region id l.toArray J) Kn Ke Kr f w:=by
 refine wp_mono (wp_region_lit h) ?_;intro e a w b;cases e with
 |normal=>exact b
 |exit id=>obtain⟨_,_,h⟩:=b;exact h.elim
 |ret=>obtain⟨_,_,h⟩:=b;exact h.elim
 |goto l=>exact b.elim
 |panic c=>exact b.elim
 |outgrown=>exact b.elim
theorem my{c:Code}{m:Fm->World->Prop}{n:Nat->Fm->World->Prop}{k:Fm->World->Prop}(h:W P N c Kn Ke Kr f w)
  (p:∀f w,Kn f w->m f w) (q:∀i f w,Ke i f w->n i f w) (o:∀f w,Kr f w->k f w):W P N c m n k f w:=by
 refine wp_mono h ?_;intro e a w b;cases e with
 |normal=>obtain⟨j,g,d⟩:=b;exact⟨j,g,p _ _ d⟩
 |exit id=>obtain⟨j,g,d⟩:=b;exact⟨j,g,q _ _ _ d⟩
 |ret=>obtain⟨j,g,d⟩:=b;exact⟨j,g,o _ _ d⟩
 |goto l=>exact b.elim
 |panic c=>exact b.elim
 |outgrown=>exact b.elim
variable {ops:Array Oper} {rest:M Oper} {d:Nat} {op:Op} {ty:TypeId} {pos:String} {aft:Array Edge} {gd:u (Nat×Bool)}
theorem j9(h:Kn f w):Ls P N ops Kn [] f w:=⟨f,rfl,h⟩
theorem Ch(a:jB N ops f gd)(h:Ls P N ops Kn rest (Dj f d undef) w):Ls P N ops Kn (⟨Z d,op,ty,pos,aft,gd⟩::rest) f w:=by
 unfold Ls wpList;rw[if_neg (a.to _ _ _ _ _),uu];exact h
theorem ab5(a:jB N ops f gd)(h:Ls P N ops Kn rest f w):Ls P N ops Kn (⟨O,op,ty,pos,aft,gd⟩::rest) f w:=by
 unfold Ls wpList;rw[if_neg (a.to _ _ _ _ _)];exact h
theorem enter{g:FuncId}{j:Func}{c:Code}{args:Array Value}{R:Ending->World->Prop}(n:P.funcs[g]?=Z j)(o:j.body=Z c)(q:j.ntmps=N)(p:n8 args.size N=I)
  (h:W P N c (λf w=>∃v,(results j (fr f N).tmps).run P w=.ok v w/\R (.returned v) w) (λ_ _ _=>False) (λf w=>∃v,(results j (fr f N).tmps).run P w=.ok v w/\R (.returned v) w) (λi=>args.getD i undef) w) :
  Calls P g args w R:=by
 refine calls_of_wp n o ?_;have e:({tmps:=args++ru (j.ntmps - args.size) undef,defers:=[] }:Act)=fr (λi=>args.getD i undef) N:=by
  unfold fr
  congr 1
  have s:args.size<=N:=by simpa using p
  apply Array.ext
  ·simp[q];omega
  ·intro i m k;simp only[Array.getElem_ofFn,Array.getElem_append]
   split<;>simp_all
 rw[e];refine wp_mono h ?_;intro e a w b;cases e with
 |normal=>obtain⟨r,rfl,v,m,k⟩:=b;exact⟨rfl,v,m,k⟩
 |exit id=>obtain⟨_,_,h⟩:=b;exact h.elim
 |ret=>obtain⟨r,rfl,v,m,k⟩:=b;exact⟨rfl,v,m,k⟩
 |goto l=>exact b.elim
 |panic c=>exact b.elim
 |outgrown=>exact b.elim
end rules
section drawn
variable {P:Program} {N:Nat} {Kn:Fm->World->Prop} {Ke:Nat->Fm->World->Prop} {Kr:Fm->World->Prop} {f:Fm} {w:World} {ops:Array Oper} {S:World->Prop}
def Wj(ops:Array Oper):M (Nat×Bool)->Array Bool->Bool
 |[],listed=>(Region.ready .any ops listed).isEmpty
 |(i,quiet)::s,listed=>(Region.ready .any ops listed).contains i && (if quiet then Region.free .any ops listed i else Region.ready .any ops listed ==[i]) && Wj ops s (listed.setIfInBounds i I)
def Dw(P:Program)(N:Nat)(ops:Array Oper)(S:World->Prop)(Kn:Fm->World->Prop):M (Nat×Bool)->Fm->World->Prop
 |[],f,w=>Kn f w
 |(i,quiet)::s,f,w=>if quiet then
   ∃o v a,ops[i]?=Z o/\YieldsIf P ops S o v (fr f N)/\(fr f N).put o.dst v=fr a N/\S w/\Dw P N ops S Kn s a w
  else wpOp P ops (VT N Kn (λ_ _ _=>False) (λ_ _=>False)) i (λc b=>S b/\∃a,c=fr a N/\Dw P N ops S Kn s a b) (fr f N) w
theorem Nf(d:Region.noSelect ops=I):∀(s:M (Nat×Bool)) (listed:Array Bool) (f:Fm) (w:World),Wj ops s listed=I->Dw P N ops S Kn s f w->
  wpAnyH P .any ops (VT N Kn (λ_ _ _=>False) (λ_ _=>False)) S s.length listed (fr f N) w
 |[],listed,f,w,b,h=>by
  refine wpAnyH_done ?_ ⟨f,rfl,h⟩ _
  simpa [Wj] using b
 |(i,I)::s,listed,f,w,b,h=>by
  simp only[Wj,ai,if_true]at b;obtain⟨⟨e,x⟩,l⟩:=b;simp only[Dw,if_true]at h;obtain⟨o,v,k,t,p,r,g,hd⟩:=h;refine wpAnyH_take t d x e (λc a w q=>q.elim) p g ?_;rw[r];exact Nf d s _ k w l hd
 |(i,J)::s,listed,f,w,b,h=>by
  simp only[Wj,ai,aF,if_false,beq_iff_eq]at b;obtain⟨⟨_,e⟩,l⟩:=b;simp only[Dw,aF,if_false]at h;refine wpAnyH_all e (by simp) ?_;intro j m;simp only[cT]at m;subst m;refine wpOp_mono ?_ h
  rintro y n ⟨g,k,rfl,hd⟩
  exact⟨g,Nf d s _ k n l hd⟩
variable {s:M (Nat×Bool)} {i d:Nat} {op:Op} {ty:TypeId} {pos:String} {aft:Array Edge} {gd:u (Nat×Bool)}
end drawn
section ops
variable {P:Program} {ρ:Operand->Value} {w:World} {dst:u Tmp} {ty:TypeId} {pos:String} {aft:Array Edge} {gd:u (Nat×Bool)}
theorem gY{x:Operand}{v:Value}(a:ρ x=v):(execOp ρ ⟨dst,.move x,ty,pos,aft,gd⟩).run P w=.ok (.value v) w:=by
 subst a;rfl
theorem jI{x:Operand}{v:Value}(a:ρ x=v):(execOp ρ ⟨dst,.assign x,ty,pos,aft,gd⟩).run P w=.ok (.value v) w:=by
 subst a;rfl
theorem Pn{c x y:Operand}{v:Value}(b:ρ c=.bool I)(a:ρ x=v):(execOp ρ ⟨dst,.pick c x y,ty,pos,aft,gd⟩).run P w=.ok (.value v) w:=by
 simp[execOp,b,a,asBool]
theorem Pm{c x y:Operand}{v:Value}(b:ρ c=.bool J)(a:ρ y=v):(execOp ρ ⟨dst,.pick c x y,ty,pos,aft,gd⟩).run P w=.ok (.value v) w:=by
 simp[execOp,b,a,asBool]
theorem ad_{x:Operand}{b:Bool}{T:TypeId}(a:ρ x=.bool b):(execOp ρ ⟨dst,.unOp .not T x,ty,pos,aft,gd⟩).run P w=.ok (.value (.bool (!b))) w:=by
 simp[execOp,a,Op.unary]
theorem Sh(a b:Int):(a ==b)=Z' (a=b):=by
 by_cases h:a=b<;>simp[h]
section int
variable {x y:Operand} {a b:Int} {T T':TypeId} {ik:IntKind}
theorem Pl{r:Bool}(d:ρ x=.int ik a)(c:ρ y=.int ik b)(e:Z' (a < b)=r):(execOp ρ ⟨dst,.binOp .lss T x y T',ty,pos,aft,gd⟩).run P w=.ok (.value (.bool r)) w:=by
 subst e;simp[execOp,d,c,binOp,Op.intCmp,eqGuard]
theorem alW{r:Bool}(d:ρ x=.int ik a)(c:ρ y=.int ik b)(e:Z' (a<=b)=r):(execOp ρ ⟨dst,.binOp .leq T x y T',ty,pos,aft,gd⟩).run P w=.ok (.value (.bool r)) w:=by
 subst e;simp[execOp,d,c,binOp,Op.intCmp,eqGuard]
theorem alV{r:Bool}(d:ρ x=.int ik a)(c:ρ y=.int ik b)(e:Z' (b < a)=r):(execOp ρ ⟨dst,.binOp .gtr T x y T',ty,pos,aft,gd⟩).run P w=.ok (.value (.bool r)) w:=by
 subst e;simp[execOp,d,c,binOp,Op.intCmp,eqGuard]
theorem alU{r:Bool}(d:ρ x=.int ik a)(c:ρ y=.int ik b)(e:Z' (b<=a)=r):(execOp ρ ⟨dst,.binOp .geq T x y T',ty,pos,aft,gd⟩).run P w=.ok (.value (.bool r)) w:=by
 subst e;simp[execOp,d,c,binOp,Op.intCmp,eqGuard]
theorem alT{r:Bool}(d:ρ x=.int ik a)(c:ρ y=.int ik b)(e:Z' (a=b)=r):(execOp ρ ⟨dst,.binOp .eql T x y T',ty,pos,aft,gd⟩).run P w=.ok (.value (.bool r)) w:=by
 subst e;simp[execOp,d,c,binOp,Op.intCmp,eqGuard];exact Sh a b
theorem alX{r:Bool}(d:ρ x=.int ik a)(c:ρ y=.int ik b)(e:Z' (a=b)=!r):(execOp ρ ⟨dst,.binOp .neq T x y T',ty,pos,aft,gd⟩).run P w=.ok (.value (.bool r)) w:=by
 have:r=!Z' (a=b):=by rw[e];simp
 subst this;simp[execOp,d,c,binOp,Op.intCmp,eqGuard,bne];exact Sh a b
theorem Uj(d:ρ x=.int .i64 a)(c:ρ y=.int .i64 b)(e:-9223372036854775808<=a+b/\a+b<=9223372036854775807):(execOp ρ ⟨dst,.binOp .add T x y T',ty,pos,aft,gd⟩).run P w=.ok (.value (.int .i64 (a+b))) w:=by
 simp[execOp,d,c,binOp,Op.intArith,eqGuard];exact IntWalk.i64_in _ (by omega)
end int
theorem oX(a b:z):(a.toList ==b.toList)=Z' (a=b):=by
 rw[cR];simp only[beq_iff_eq,decide_eq_true_eq,ByteArray.toList_eq]
 constructor
 ·intro h;cases a;cases b;simp at h;simp[h]
 ·rintro rfl;rfl
section str
variable {x y:Operand} {a b:z} {T T':TypeId}
theorem ag7{r:Bool}(d:ρ x=.string a)(c:ρ y=.string b)(e:Z' (a=b)=r):(execOp ρ ⟨dst,.binOp .eql T x y T',ty,pos,aft,gd⟩).run P w=.ok (.value (.bool r)) w:=by
 subst e;simp[execOp,d,c,binOp,Op.stringOp,eqGuard,oX]
theorem ag9{r:Bool}(d:ρ x=.string a)(c:ρ y=.string b)(e:Z' (a=b)=!r):(execOp ρ ⟨dst,.binOp .neq T x y T',ty,pos,aft,gd⟩).run P w=.ok (.value (.bool r)) w:=by
 have:r=!Z' (a=b):=by rw[e];simp
 subst this;simp[execOp,d,c,binOp,Op.stringOp,eqGuard,oX]
end str
section lx
variable {x y:Operand} {a b:Bool} {T T':TypeId}
theorem ag5{r:Bool}(g:P.underlying T=Z .bool)(d:ρ x=.bool a)(c:ρ y=.bool b)(f:Z' (a=b)=r):(execOp ρ ⟨dst,.binOp .eql T x y T',ty,pos,aft,gd⟩).run P w=.ok (.value (.bool r)) w:=by
 have e:(a ==b)=r:=by subst f;cases a<;>cases b<;>rfl
 simp[execOp,d,c,eqGuard,run_eql_bool w T a b g,e]
theorem ag6{r:Bool}(f:P.underlying T=Z .bool)(d:ρ x=.bool a)(c:ρ y=.bool b)(g:Z' (a=b)=!r):(execOp ρ ⟨dst,.binOp .neq T x y T',ty,pos,aft,gd⟩).run P w=.ok (.value (.bool r)) w:=by
 have e:(a ==b)=!r:=by cases a<;>cases b<;>cases r<;>simp_all
 simp[execOp,d,c,eqGuard,run_neq_bool w T a b f,e]
end lx
theorem JF{x:Operand}{A:u Addr}{n c:Nat}{T a:TypeId}(d:P.underlying T=Z (.slice a))(b:ρ x=.slice A n c) :
  (execOp ρ ⟨dst,.call {callee:=.builtin .len,args:=#[x],argTypes:=#[T] },ty,pos,aft,gd⟩).run P w=.ok (.value (.int .i64 n)) w:=by
 simp[execOp,resolve,invoke,builtin,Builtin.len_,b,run_underlying d,goInt]
theorem ag8{x:Operand}{s:z}{T:TypeId}(b:P.underlying T=Z .string)(a:ρ x=.string s) :
  (execOp ρ ⟨dst,.call {callee:=.builtin .len,args:=#[x],argTypes:=#[T] },ty,pos,aft,gd⟩).run P w=.ok (.value (.int .i64 s.size)) w:=by
 simp[execOp,resolve,invoke,builtin,Builtin.len_,a,run_underlying b,goInt]
theorem u_{x y:Operand}{b o n c:Nat}{i:Nat}{a:Int}{T d:TypeId}{k:Nat}(j:P.underlying T=Z (.slice d))(l:∀w,(mW d).run P w=.ok k w)(f:ρ x=.slice (Z ⟨b,o,O⟩) n c)(e:ρ y=.int .i64 a)(h:a=(i:Int))(g:i < n) :
  (execOp ρ ⟨dst,.indexAddr T x y,ty,pos,aft,gd⟩).run P w=.ok (.value (.pointer (Z ⟨b,o+i * k,O⟩))) w:=by
 subst h;have m:(0:Int)<=(i:Int)/\(i:Int) < (n:Int):=by omega
 simp[execOp,Instr.indexAt,f,e,asIntOf,run_underlying j,l,qG,g]
theorem aaO{x y:Operand}{A:u Addr}{b o n c:Nat}{i:Nat}{a:Int}{T d:TypeId}{k:Nat}(j:P.underlying T=Z (.slice d))(l:∀w,(mW d).run P w=.ok k w)(f:ρ x=.slice A n c)(m:A=Z ⟨b,o,O⟩)(e:ρ y=.int .i64 a)(h:a=(i:Int))(g:i < n) :
  (execOp ρ ⟨dst,.indexAddr T x y,ty,pos,aft,gd⟩).run P w=.ok (.value (.pointer (Z ⟨b,o+i * k,O⟩))) w:=u_ j l (f.trans (by rw[m])) e h g
def eB(s:z)(i:Nat):Int:=((s[i]?.getD 0).toNat:Int)
theorem ue(s:z)(i:Nat):0<=eB s i/\eB s i<=255:=by
 unfold eB;have:=(s[i]?.getD 0).toNat_lt;omega
theorem aaP{x y:Operand}{s:z}{i:Nat}{a:Int}{T:TypeId}(f:P.underlying T=Z .string)(c:ρ x=.string s)(b:ρ y=.int .i64 a)(e:a=(i:Int))(d:i < s.size) :
  (execOp ρ ⟨dst,.index T x y,ty,pos,aft,gd⟩).run P w=.ok (.value (.int .u8 (eB s i))) w:=by
 subst e;simp[execOp,Instr.index,c,b,asIntOf,run_underlying f,eB,d]
theorem Uk{x:Operand}{b o j k:Nat}{T:TypeId}{fs:Array Field}{i:Nat}{a:Field}(e:P.underlying T=Z (.struct fs))(g:fs[i]?=Z a)(f:∀w,(mW a.type).run P w=.ok (k+1) w)(d:a.offset=j)(c:ρ x=.pointer (Z ⟨b,o,O⟩)) :
  (execOp ρ ⟨dst,.fieldAddr T x i,ty,pos,aft,gd⟩).run P w=.ok (.value (.pointer (Z ⟨b,o+j,O⟩))) w:=by
 subst d;simp[execOp,Instr.fieldAt,c,Instr.sureAddr,run_underlying e,g,fieldPlace,f,qG]
theorem R2{x y:Operand}{A:u Addr}{n c h:Nat}{a:Int}{T d:TypeId}{k:Nat}(l:P.underlying T=Z (.slice d))(m:∀w,(mW d).run P w=.ok k w)(g:ρ x=.slice A n c)(f:ρ y=.int .i64 a)(j:a=(h:Int))(i:h<=c) :
  (execOp ρ ⟨dst,.slice T x O (Z y) O,ty,pos,aft,gd⟩).run P w=.ok (.value (.slice A h c)) w:=by
 subst j;have e:A.map (λb=>b.add 0)=A:=by cases A<;>simp[Addr.add]
 simp[execOp,Instr.sliceAt,Instr.slice,Instr.sliceBounds,Instr.sliceBound,g,f,asIntOf,run_underlying l,m,i,e]
def PK(ρ:Operand->Value):u Operand->Nat->Nat->Prop
 |none,a,m=>m=a
 |some y,_,m=>ρ y=.int .i64 (m:Int)
theorem Ht{x:Operand}{m g:u Operand}{A:u Addr}{n c l h:Nat}{T b:TypeId}{k:Nat}(i:P.underlying T=Z (.slice b))(j:∀w,(mW b).run P w=.ok k w)(f:ρ x=.slice A n c)(d:PK ρ m 0 l)(e:PK ρ g n h)(p:l<=h)(o:h<=c) :
  (execOp ρ ⟨dst,.slice T x m g O,ty,pos,aft,gd⟩).run P w=.ok (.value (.slice (if c=l then A else A.map (λa=>a.add (l * k))) (h - l) (c - l))) w:=by
 cases m with
 |none=>
  cases g with
  |none=>simp only[PK]at d e;subst d e;simp[execOp,Instr.sliceAt,Instr.slice,Instr.sliceBounds,f,run_underlying i,j]
  |some a=>simp only[PK]at d e;subst d;simp[execOp,Instr.sliceAt,Instr.slice,Instr.sliceBounds,Instr.sliceBound,f,e,asIntOf,run_underlying i,j,o]
 |some y=>
  cases g with
  |none=>simp only[PK]at d e;subst e;simp[execOp,Instr.sliceAt,Instr.slice,Instr.sliceBounds,Instr.sliceBound,f,d,asIntOf,run_underlying i,j,p]
  |some a=>simp only[PK]at d e;simp[execOp,Instr.sliceAt,Instr.slice,Instr.sliceBounds,Instr.sliceBound,f,d,e,asIntOf,run_underlying i,j,p,o]
theorem aaQ{x:Operand}{g e:u Operand}{t:z}{l h:Nat}{T:TypeId}(f:P.underlying T=Z .string)(d:ρ x=.string t)(b:PK ρ g 0 l)(c:PK ρ e t.size h)(j:l<=h)(i:h<=t.size) :
  (execOp ρ ⟨dst,.slice T x g e O,ty,pos,aft,gd⟩).run P w=.ok (.value (.string (t.extract l h))) w:=by
 cases g with
 |none=>
  cases e with
  |none=>simp only[PK]at b c;subst b c;simp[execOp,Instr.sliceAt,Instr.slice,Instr.sliceBounds,d,run_underlying f]
  |some a=>simp only[PK]at b c;subst b;simp[execOp,Instr.sliceAt,Instr.slice,Instr.sliceBounds,Instr.sliceBound,d,c,asIntOf,run_underlying f,i]
 |some y=>
  cases e with
  |none=>simp only[PK]at b c;subst c;simp[execOp,Instr.sliceAt,Instr.slice,Instr.sliceBounds,Instr.sliceBound,d,b,asIntOf,run_underlying f,j]
  |some a=>simp only[PK]at b c;simp[execOp,Instr.sliceAt,Instr.slice,Instr.sliceBounds,Instr.sliceBound,d,b,c,asIntOf,run_underlying f,j,i]
theorem Mq{x:Operand}{b o:Nat}{T:TypeId}{v:Value}(d:∀w,(isAgg T).run P w=.ok J w)(a:ρ x=.pointer (Z ⟨b,o,O⟩))(c:w.cell? ⟨b,o,O⟩=Z v) :
  (execOp ρ ⟨dst,.load T x,ty,pos,aft,gd⟩).run P w=.ok (.value v) w:=by
 simp[execOp,Instr.loadAt,a,Instr.sureAddr,loadVar,d,load,Sem.run,c]
theorem run_loadCellsFrom{b o:Nat}:∀(e:M Value) (i:Nat) (d:Array Value),iA w b (o+i) e->(loadCellsFrom ⟨b,o,O⟩ i e.length d).run P w=.ok (d++e.toArray) w
 |[],i,d,_=>by simp[loadCellsFrom]
 |c::e,i,d,h=>by
  have f:=h 0 c (by simp);rw[cd]at f;have g:=run_loadCellsFrom e (i+1) (d.push c) (λj a k=>by
   have:=h (j+1) a (by simpa using k);rw[show o+(i+1)+j=o+i+(j+1) from by omega];exact this)
  simp[loadCellsFrom,load,Sem.run,qG,f,g]
theorem Mr{x:Operand}{b o:Nat}{T:TypeId}{a:M Value}{k:Nat}(g:∀w,(isAgg T).run P w=.ok I w)(f:∀w,(mW T).run P w=.ok k w)(c:ρ x=.pointer (Z ⟨b,o,O⟩))(d:a.length=k)(e:iA w b o a) :
  (execOp ρ ⟨dst,.load T x,ty,pos,aft,gd⟩).run P w=.ok (.value (.agg a.toArray)) w:=by
 subst d;have h:=run_loadCellsFrom (P:=P) (w:=w) (b:=b) (o:=o) a 0 #[] (by simpa using e);simp[execOp,Instr.loadAt,c,Instr.sureAddr,loadVar,g,f,loadCells,h]
def one:Value->Bool
 | .agg _=>J
 | .tuple _=>J
 |_=>I
theorem GZ{g i:Nat}{t:TypeId}{a:M Value}{v:Value}{c:Type}(k:Sem c)(b:kJ w g t a)(d:i < a.length)(h:one v=I) :
  (Sem.store .plain ⟨g,i,O⟩ v k).run P w=k.run P (gy w g (.cells (a.set i v).toArray t (0,0))):=by
 have f:w.cell? ⟨g,i,O⟩=Z a[i]:=by rw[b.cell];simp[d]
 have e:=b.frozen i;rw[<- C9 b];cases v<;>simp_all[Sem.run,one]
theorem ado{x y:Operand}{g o:Nat}{T t:TypeId}{a:M Value}{v:Value}(h:∀w,(mW T).run P w=.ok 1 w)(c:ρ x=.pointer (Z ⟨g,o,O⟩))(b:ρ y=v)(i:one v=I)(f:kJ w g t a)(d:o < a.length) :
  (execOp ρ ⟨dst,.store T x y,ty,pos,aft,gd⟩).run P w=.ok .skip (gy w g (.cells (a.set o v).toArray t (0,0))):=by
 have e:v.cells=#[v]:=by cases v<;>simp_all[Value.cells,one]
 simp[execOp,Instr.storeAt,c,b,Instr.sureAddr,storeVar,h,e,storeCells,store,Addr.add,GZ _ f d i]
def cO(b:M Value)(i:Nat)(a:M Value):M Value:=b.take i++a++b.drop (i+a.length)
theorem tU(w:World)(g:Nat)(o a:Obj):gy (gy w g o) g a=gy w g a:=by
 simp[gy]
theorem xd(b:M Value)(i:Nat)(v:Value)(a:M Value)(h:i+(a.length+1)<=b.length):cO (b.set i v) (i+1) a=cO b i (v::a):=by
 unfold cO
 apply eE
 intro k;simp only[zu,bh,aY,rz,aH,cS,jT,fI,List.getElem?_cons]
 grind
theorem nZ{g:Nat}{t:TypeId}{o:Nat}:∀(c:M Value) (i:Nat) (w:World) (b:M Value),kJ w g t b->o+i+c.length<=b.length->(∀v∈c,one v=I)->
  (storeCells ⟨g,o,O⟩ c i).run P w=.ok () (gy w g (.cells (cO b (o+i) c).toArray t (0,0)))
 |[],i,w,b,d,_,_=>by
  have:gy w g (.cells (cO b (o+i) []).toArray t (0,0))=w:=by
   have f:=d;unfold kJ at f;simp only[cO,aK,aJ,cd,bI];have q:=d.lt;unfold gy;have:w.heap.setIfInBounds g (.cells b.toArray t (0,0))=w.heap:=by
    apply Array.ext
    ·simp
    ·intro k h p;rw[Array.getElem_setIfInBounds];split
     ·rename_i e;subst e;rw[mV p]at f;exact (ey f).symm
     ·rfl
   rw[this]
  simp[storeCells,this]
 |v::c,i,w,b,d,n,h=>by
  simp only[aH]at n;have m:(b.set (o+i) v).length=b.length:=by simp
  have j:=nZ (o:=o) c (i+1) (gy w g (.cells (b.set (o+i) v).toArray t (0,0))) (b.set (o+i) v) (d.iq t _) (by rw[m];omega) (λa l=>h a (by simp[l]));rw[tU,show o+(i+1)=o+i+1 from by omega,xd b (o+i) v c (by omega)]at j;simp only[storeCells,store,qG];have f:=GZ (P:=P) (Sem.pure ()) d (show o+i < b.length by omega) (h v (by simp));simp only[Sem.run_bind,f,Sem.run,Result.andThen_ok];exact j
theorem zo{F:FuncId}{as:Array Operand}{ts:Array TypeId}{a:Array Value}(d:∀(args:Array Value) (w:World),(callFunc F args).run P w=.ok (.enter F args) w)(c:ρ (.func F)=.func (.func F) #[] #[])(b:as.map ρ=a) :
  (execOp ρ ⟨dst,.call {callee:=.value (.func F),args:=as,argTypes:=ts },ty,pos,aft,gd⟩).run P w=.ok (.enter F a) w:=by
 subst b;simp[execOp,resolve,Deferred.ofValue,c,invoke,d]
theorem a1{x:Operand}{a:Value}(h:ρ x=a):(#[x]:Array Operand).map ρ=#[a]:=by simp[h]
theorem a2{x y:Operand}{a v:Value}(h:ρ x=a)(b:ρ y=v):(#[x,y]:Array Operand).map ρ=#[a,v]:=by simp[h,b]
theorem a3{x y a:Operand}{b v q:Value}(h:ρ x=b)(d:ρ y=v)(c:ρ a=q):(#[x,y,a]:Array Operand).map ρ=#[b,v,q]:=by simp[h,d,c]
theorem a4{x y a t:Operand}{b v q r:Value}(h:ρ x=b)(e:ρ y=v)(d:ρ a=q)(c:ρ t=r):(#[x,y,a,t]:Array Operand).map ρ=#[b,v,q,r]:=by simp[h,e,d,c]
theorem a5{x y a t s:Operand}{b v q r p:Value}(h:ρ x=b)(f:ρ y=v)(e:ρ a=q)(d:ρ t=r)(c:ρ s=p):(#[x,y,a,t,s]:Array Operand).map ρ=#[b,v,q,r,p]:=by simp[h,f,e,d,c]
theorem Wd{x:Operand}{a:Array Value}{i:Nat}{v:Value}(b:ρ x=.tuple a)(c:a[i]?=Z v):(execOp ρ ⟨dst,.extract x i,ty,pos,aft,gd⟩).run P w=.ok (.value v) w:=by
 simp[execOp,Instr.extract,b,c]
end ops
theorem adx{p:Prop}[Decidable p](h:p):decide p=I:=by simp[h]
theorem adw{p:Prop}[Decidable p](h:¬p):decide p=J:=by simp[h]
theorem adl{k:IntKind}{a b:Int}(h:a=b):Value.int k a=Value.int k b:=by rw[h]
section ao8
variable {P:Program} {N:Nat} {f:Fm} {w:World} {fn:Func}
theorem Jo{t:Tmp}{v:Value}(h:fn.results=#[.tmp t])(a:f t=v)(b:fV t N=I:=by rfl):(results fn (fr f N).tmps).run P w=.ok v w:=by
 have c:t < N:=by simpa using b
 rw[results_tmp h];simp[fr,c,a]
end ao8
def vr(P:Program)(N:Nat)(o:Oper)(f:Fm)(w:World)(K:Fm->World->Prop):Prop:=
 o.wp P (fr f N) w (λc b=>∃a,c=fr a N/\K a b) (λ_ _ _=>False)
structure Ii (g:Nat) (w w':World):Prop where
 os:w'.os=w.os
 tape:w'.tape=w.tape
 output:w'.output=w.output
 size:w'.heap.size=w.heap.size
 block:∀k,k≠g->w'.heap[k]?=w.heap[k]?
 fz:∀o,w'.frozen? ⟨g,o,none⟩=false
theorem Ii.gy(w:World)(g:Nat)(c:Array Value)(t:TypeId):Ii g w (gy w g (.cells c t (0,0))):=by
 refine⟨rfl,rfl,rfl,gh w g _,λk b=>US w g _ k b,λo=>?_⟩;rcases dD g w.heap.size with a|a
 ·simp[World.frozen?,Go.Proofs.YtnnjajingjfjiaaGreatDoor.gy,a]
 ·exact yJ (by rw[gh];exact a) o
theorem Uw{B:Nat}{a w c:World}{g:Nat}(h:CJ B a w)(b:Ii g w c)(f:B<=g):CJ B a c:=by
 refine⟨h.toBelow.trans ⟨b.os,b.tape,b.output,by rw[b.size];exact aD _,λk d=>b.block k (by omega)⟩,λk d o=>?_⟩;by_cases e:k=g
 ·subst e;exact b.fz o
 ·rw[World.frozen?_of_block (w:=w) (b.block k e)];exact h.H0 k d o
theorem kJ.off{w a:World}{g k:Nat}{t:TypeId}{b:M Value}(h:kJ w g t b)(c:Ii k w a)(d:g≠k):kJ a g t b:=h.dF (c.block g d)
section
variable {P:Program} {N:Nat} {ops:Array Oper} {Kn:Fm->World->Prop} {rest:M Oper} {f:Fm} {w:World} {o:Oper} {S:World->Prop} {s:M (Nat×Bool)} {i:Nat} {K:Fm->World->Prop}
theorem vr.agV{Q:Exit->Act->World->Prop}{p:Act->World->Prop}(h:vr P N o f w K)(k:∀b l,K b l->p (fr b N) l):o.wp P (fr f N) w p Q:=by
 unfold vr Oper.wp at h;unfold Oper.wp;generalize (execOp (fr f N).eval o).run P w=r at *;cases r with
 |ok n l=>
  cases n<;>simp only[Oper.upon]at h ⊢
  case value v=>obtain⟨b,e,a⟩:=h;rw[e];exact k _ _ a
  case skip=>obtain⟨b,e,a⟩:=h;rw[e];exact k _ _ a
  case defer d=>obtain⟨b,e,a⟩:=h;rw[e];exact k _ _ a
  case enter g args=>
   refine Calls.mono h λe m j=>?_;cases e with
   |returned v=>obtain⟨b,e,a⟩:=j;show p _ _;rw[e];exact k _ _ a
   |panicked c=>exact j.elim
   |outgrown=>obtain⟨_,_,h⟩:=j;exact h.elim
  case row r args=>exact Rows.mono h λv m j=>by obtain⟨b,e,a⟩:=j;rw[e];exact k _ _ a
 |halt x l=>
  cases x<;>simp only[Oper.upon]at h
theorem gf(c:rM N ops f o.guard)(h:vr P N o f w (λd a=>Ls P N ops Kn rest d a)):Ls P N ops Kn (o::rest) f w:=by
 unfold Ls wpList;rw[if_pos (show Region.wanted o _=I from c)];exact .inl (h.agV λ_ _ b=>b)
end
section
variable {P:Program} {N:Nat} {f:Fm} {w:World} {K:Fm->World->Prop} {d:Nat} {ty:TypeId} {pos:String} {aft:Array Edge} {gd:u (Nat×Bool)}
theorem eo{op:Op}{v:Value}(a:(execOp (fr f N).eval ⟨Z d,op,ty,pos,aft,gd⟩).run P w=.ok (.value v) w)(h:K (Dj f d v) w):vr P N ⟨Z d,op,ty,pos,aft,gd⟩ f w K:=by
 unfold vr Oper.wp;rw[a,Oper.upon_value];exact⟨_,uu f N d v,h⟩
theorem wT{op:Op}{v:Value}{a:World}(b:(execOp (fr f N).eval ⟨Z d,op,ty,pos,aft,gd⟩).run P w=.ok (.value v) a)(h:K (Dj f d v) a):vr P N ⟨Z d,op,ty,pos,aft,gd⟩ f w K:=by
 unfold vr Oper.wp;rw[b,Oper.upon_value];exact⟨_,uu f N d v,h⟩
theorem LK{op:Op}{a:World}(b:(execOp (fr f N).eval ⟨O,op,ty,pos,aft,gd⟩).run P w=.ok .skip a)(h:K f a):vr P N ⟨O,op,ty,pos,aft,gd⟩ f w K:=by
 unfold vr Oper.wp;rw[b,Oper.upon_skip];exact⟨_,rfl,h⟩
theorem yW{op:Op}{g:FuncId}{args:Array Value}(b:(execOp (fr f N).eval ⟨Z d,op,ty,pos,aft,gd⟩).run P w=.ok (.enter g args) w){R:Ending->World->Prop}(j:Calls P g args w R)
  (h:∀e a,R e a->∃v,e=.returned v/\K (Dj f d v) a):vr P N ⟨Z d,op,ty,pos,aft,gd⟩ f w K:=by
 unfold vr Oper.wp;rw[b,Oper.upon_enter];refine j.mono λe a i=>?_;obtain⟨v,rfl,c⟩:=h e a i;exact⟨_,uu f N d v,c⟩
theorem Jk{op:Op}{T:TypeId}{b:M Value}{v:Value}(c:(execOp (fr f N).eval ⟨Z d,op,ty,pos,aft,gd⟩).run P w=.ok (.value v) (w.alloc (.cells b.toArray T)))
  (h:∀a:World,a.heap.size=w.heap.size+1->CJ w.heap.size w a->kJ a w.heap.size T b->K (Dj f d v) a):vr P N ⟨Z d,op,ty,pos,aft,gd⟩ f w K:=
 wT c (h _ (size_alloc _ _) (xk _ _ _) (kJ.new _ _ _))
end
attribute [irreducible] vr Ls W Dw
end
section
open Go.RowKit
inductive D where
 |int (k:IntKind) (n:Int)
 |bool (b:Bool)
 |str (s:ByteArray)
 |list (k:Nat) (fl:Bool) (es:List (List D))
abbrev E(n:Int):D:=.int .i64 n
instance:Inhabited D:=⟨.bool J⟩
def D.plain:D->Bool
 | .list _ _ _=>J
 |_=>I
def flat(es:M (M D)):Prop:=∀e∈es,∀x∈e,D.plain x=I
theorem jE:flat []:=λ_ h=>by simp at h
abbrev Fp:=M (Nat×Nat)
mutual
def Rp(w:World):D->Value->Fp->Prop
 | .int k n,v,F=>v=.int k n/\F=[]/\k.wrap n=n
 | .bool b,v,F=>v=.bool b/\F=[]
 | .str s,v,F=>v=.string s/\F=[]/\s.size<=maxLen
 | .list k j es,v,F=>∃A n c,v=.slice A n c/\n=es.length/\n<=c/\c<=maxLen/\(j=I->flat es)/\0 < k/\(∀e∈es,e.length=k)/\
   ((n=0/\F=[])\/(0 < n/\∃b o h G,A=Z ⟨b,o,O⟩/\F=(b,o+n * k)::G/\fw w es h G/\iA w b o h))
def fp(w:World):List D->List Value->Fp->Prop
 |[],a,F=>a=[]/\F=[]
 |d::l,a,F=>∃v i g f,a=v::i/\F=g++f/\Rp w d v g/\fp w l i f
def fw(w:World):List (List D)->List Value->Fp->Prop
 |[],a,F=>a=[]/\F=[]
 |e::es,a,F=>∃v1 v2 g f,a=v1++v2/\F=g++f/\fp w e v1 g/\fw w es v2 f
end
def vI(F:Fp)(w b:World):Prop:=∀a∈F,∀j,j < a.2->b.cell? ⟨a.1,j,O⟩=w.cell? ⟨a.1,j,O⟩
theorem vI.left{F G:Fp}{w a:World}(h:vI (F++G) w a):vI F w a:=λc b=>h c (by simp[b])
theorem vI.right{F G:Fp}{w a:World}(h:vI (F++G) w a):vI G w a:=λc b=>h c (by simp[b])
theorem fp.length{w:World}:∀(a:M D) {b:M Value} {F:Fp},fp w a b F->b.length=a.length
 |[],_,_,h=>by simp only[fp]at h;simp[h.1]
 |d::a,_,_,h=>by
  simp only[fp]at h;obtain⟨v,e,g,f,rfl,_,_,c⟩:=h;simp[fp.length a c]
theorem fw.length{w:World}{k:Nat}:∀(es:M (M D)) {a:M Value} {F:Fp},fw w es a F->(∀e∈es,e.length=k)->a.length=es.length * k
 |[],_,_,h,_=>by simp only[fw]at h;simp[h.1]
 |e::es,_,_,h,b=>by
  simp only[fw]at h;obtain⟨v1,v2,i,g,rfl,_,f,d⟩:=h;simp only[bh,aH,fp.length e f,fw.length es d (λx c=>b x (by simp[c])),b e (by simp),j5];omega
theorem iA.ajt{w d:World}{b o n:Nat}{c:M Value}(h:iA w b o c)(g:o+c.length<=n)(f:∀j,j < n->d.cell? ⟨b,j,O⟩=w.cell? ⟨b,j,O⟩):iA d b o c:=by
 intro j a e;have i:=(bq.1 e).1;rw[f (o+j) (by omega)];exact h j a e
mutual
theorem Rp.dF{w a:World}:∀(d:D) {v:Value} {F:Fp},Rp w d v F->vI F w a->Rp a d v F
 | .int _ _,_,_,h,_=>by simpa only [Rp] using h
 | .bool _,_,_,h,_=>by simpa only [Rp] using h
 | .str _,_,_,h,_=>by simpa only [Rp] using h
 | .list k S es,_,_,h,f=>by
  simp only[Rp]at h ⊢;obtain⟨A,n,c,m,x,l,j,C,L,t,i⟩:=h;refine⟨A,n,c,m,x,l,j,C,L,t,?_⟩;rcases i with i|⟨N,b,o,y,G,i,K,s,R⟩
  ·exact .inl i
  ·subst K;have B:=fw.length es s t;refine .inr ⟨N,b,o,y,G,i,rfl,fw.dF es s (λQ H=>f Q (by simp[H])),?_⟩;exact R.ajt (n:=o+n * k) (by rw[B,x];exact aD _) (f (b,o+n * k) (by simp))
theorem fp.dF{w a:World}:∀(p:List D) {g:List Value} {F:Fp},fp w p g F->vI F w a->fp a p g F
 |[],_,_,h,_=>by simpa only [fp] using h
 |d::p,_,_,h,f=>by
  simp only[fp]at h ⊢;obtain⟨v,P,r,q,m,rfl,l,j⟩:=h;exact⟨v,P,r,q,m,rfl,Rp.dF d l f.left,fp.dF p j f.right⟩
theorem fw.dF{w a:World}:∀(es:List (List D)) {g:List Value} {F:Fp},fw w es g F->vI F w a->fw a es g F
 |[],_,_,h,_=>by simpa only [fw] using h
 |e::es,_,_,h,f=>by
  simp only[fw]at h ⊢;obtain⟨v1,v2,r,q,m,rfl,l,j⟩:=h;exact⟨v1,v2,r,q,m,rfl,fp.dF e l f.left,fw.dF es j f.right⟩
end
theorem uK{w:World}{b o:Nat}{v:Value}(h:w.cell? ⟨b,o,O⟩=Z v):b < w.heap.size:=by
 unfold World.cell? at h;rcases dD b w.heap.size with a|a
 ·exact a
 simp_all
mutual
theorem Rp.lt{w:World}:∀(d:D) {v:Value} {F:Fp},Rp w d v F->∀f∈F,f.1 < w.heap.size
 | .int _ _,_,_,h=>by simp only[Rp]at h;simp[h.2.1]
 | .bool _,_,_,h=>by simp only[Rp]at h;simp[h.2]
 | .str _,_,_,h=>by simp only[Rp]at h;simp[h.2.1]
 | .list k S es,_,_,h=>by
  simp only[Rp]at h;obtain⟨A,n,c,r,H,j,i,Q,C,B,g⟩:=h;rcases g with g|⟨K,b,o,p,G,g,y,q,L⟩
  ·simp[g.2]
  ·subst y;have t:=fw.length es q B;have s:0 < p.length:=by rw[t,<- H];exact Nat.mul_pos K C
   have x:=uK (L 0 p[0] (by simp[s]));intro f a;rcases aL.1 a with rfl|a
   ·exact x
   ·exact fw.lt es q f a
theorem fp.lt{w:World}:∀(m:List D) {l:List Value} {F:Fp},fp w m l F->∀f∈F,f.1 < w.heap.size
 |[],_,_,h=>by simp only[fp]at h;simp[h.2]
 |d::m,_,_,h=>by
  simp only[fp]at h;obtain⟨v,R,P,N,r,rfl,j,i⟩:=h;intro f a;rcases ba.1 a with a|a
  ·exact Rp.lt d j f a
  ·exact fp.lt m i f a
theorem fw.lt{w:World}:∀(es:List (List D)) {l:List Value} {F:Fp},fw w es l F->∀f∈F,f.1 < w.heap.size
 |[],_,_,h=>by simp only[fw]at h;simp[h.2]
 |e::es,_,_,h=>by
  simp only[fw]at h;obtain⟨v1,v2,P,N,r,rfl,j,i⟩:=h;intro f a;rcases ba.1 a with a|a
  ·exact fp.lt e j f a
  ·exact fw.lt es i f a
end
theorem fp.append{w:World}:∀(a:M D) {es:M D} {c e:M Value} {F G:Fp},fp w a c F->fp w es e G->fp w (a++es) (c++e) (F++G)
 |[],_,_,_,_,_,h,b=>by
  simp only[fp]at h;obtain⟨rfl,rfl⟩:=h
  simpa using b
 |d::a,_,_,_,_,_,h,b=>by
  obtain⟨v,j,i,k,rfl,rfl,g,f⟩:=h;exact⟨v,_,i,_,rfl,by simp,g,fp.append a f b⟩
theorem fw.append{w:World}:∀(a:M (M D)) {es:M (M D)} {c e:M Value} {F G:Fp},fw w a c F->fw w es e G->fw w (a++es) (c++e) (F++G)
 |[],_,_,_,_,_,h,b=>by
  simp only[fw]at h;obtain⟨rfl,rfl⟩:=h
  simpa using b
 |d::a,_,_,_,_,_,h,b=>by
  obtain⟨v1,v2,i,j,rfl,rfl,g,f⟩:=h;exact⟨v1,_,i,_,by simp,by simp,g,fw.append a f b⟩
theorem fp.fX{w:World}:∀(c:M D) {es:M D} {b:M Value} {F:Fp},fp w (c++es) b F->∃v1 v2 a e,b=v1++v2/\F=a++e/\fp w c v1 a/\fp w es v2 e
 |[],es,b,F,h=>⟨[],b,[],F,rfl,rfl,by simp[fp],by simpa using h⟩
 |d::c,_,_,_,h=>by
  simp only[au,fp]at h;obtain⟨v,n,a,e,rfl,rfl,m,l⟩:=h;obtain⟨f,i,g,G2,rfl,rfl,k,j⟩:=fp.fX c l;exact⟨v::f,i,a++g,G2,by simp,by simp,by simp only[fp];exact⟨v,f,a,g,rfl,rfl,m,k⟩,j⟩
theorem fw.fX{w:World}:∀(c:M (M D)) {es:M (M D)} {b:M Value} {F:Fp},fw w (c++es) b F->∃v1 v2 a e,b=v1++v2/\F=a++e/\fw w c v1 a/\fw w es v2 e
 |[],es,b,F,h=>⟨[],b,[],F,rfl,rfl,by simp[fw],by simpa using h⟩
 |d::c,_,_,_,h=>by
  simp only[au,fw]at h;obtain⟨v1,v2,a,e,rfl,rfl,m,l⟩:=h;obtain⟨f,i,g,G2,rfl,rfl,k,j⟩:=fw.fX c l;exact⟨v1++f,i,a++g,G2,by simp,by simp,by simp only[fw];exact⟨v1,f,a,g,rfl,rfl,m,k⟩,j⟩
theorem fw.at_{w:World}{k:Nat}{es:M (M D)}{b:M Value}{F:Fp}(h:fw w es b F)(c:∀e∈es,e.length=k){i:Nat}{e:M D}(a:es[i]?=Z e) :
  ∃G,fp w e ((b.drop (i * k)).take k) G/\∀g∈G,g∈F:=by
 have v:=(bq.1 a).1;have o:es=es.take i++(e::es.drop (i+1)):=by
  rw[<- bq.1 a |>.2,List.getElem_cons_drop,bI]
 rw[o]at h;obtain⟨v1,v2,A,y,rfl,rfl,n,f⟩:=fw.fX _ h;simp only[fw]at f;obtain⟨j,s,q,G2,rfl,rfl,d,t⟩:=f;have r:v1.length=i * k:=by
  rw[fw.length _ n (λx l=>c x (cr l)),aY,cE (by omega)]
 have p:j.length=k:=by rw[fp.length _ d];exact c e (dS a)
 refine⟨q,?_,λg m=>by simp[m]⟩;rw[<- r,zr,<- p,oR];exact d
theorem fp.at_{w:World}:∀{f:M D} {g:M Value} {F:Fp},fp w f g F->∀{i:Nat} {d:D},f[i]?=Z d->∃v G,g[i]?=Z v/\Rp w d v G/\∀c∈G,c∈F
 |[],_,_,_,i,d,b=>by simp at b
 |x::f,_,_,h,i,d,b=>by
  simp only[fp]at h;obtain⟨v,p,o,q,rfl,rfl,n,m⟩:=h;cases i with
  |zero=>simp at b;subst b;exact⟨v,o,rfl,n,λc e=>by simp[e]⟩
  |succ i=>
   obtain⟨a,G,l,k,j⟩:=fp.at_ m b;exact⟨a,G,by simpa using l,k,λc e=>by simp[j c e]⟩
theorem fp.drop{w:World}:∀(a:M D) {c:M Value} {F:Fp} (n:Nat),fp w a c F->∃G,fp w (a.drop n) (c.drop n) G/\∀b∈G,b∈F
 |a,_,F,0,h=>⟨F,by simpa using h,λ_ h=>h⟩
 |[],_,F,n+1,h=>⟨F,by simp only[fp]at h;simp[fp,h.1,h.2],λ_ h=>h⟩
 |d::a,_,_,n+1,h=>by
  simp only[fp]at h;obtain⟨v,k,m,l,rfl,rfl,j,i⟩:=h;obtain⟨G,g,f⟩:=fp.drop a n i;exact⟨G,by simpa using g,λb e=>by simp[f b e]⟩
theorem fp.take{w:World}:∀(b:M D) {e:M Value} {F:Fp} (n:Nat),fp w b e F->∃G,fp w (b.take n) (e.take n) G/\∀c∈G,c∈F
 |b,_,F,0,h=>⟨[],by simp[fp],λ_ h=>by simp at h⟩
 |[],_,F,n+1,h=>⟨F,by simp only[fp]at h;simp[fp,h.1,h.2],λ_ h=>h⟩
 |d::b,_,_,n+1,h=>by
  simp only[fp]at h;obtain⟨v,l,f,m,rfl,rfl,k,j⟩:=h;obtain⟨G,i,g⟩:=fp.take b n j;refine⟨f++G,?_,λc a=>?_⟩
  ·exact⟨v,_,f,G,rfl,rfl,k,i⟩
  ·rcases ba.1 a with a|a
   ·simp[a]
   ·simp[g c a]
theorem fp.plain{w:World}:∀{e:M D} {g:M Value} {F:Fp},fp w e g F->(∀x∈e,D.plain x=I)->F=[]
 |[],_,_,h,_=>by simp only[fp]at h;exact h.2
 |d::e,_,_,h,f=>by
  simp only[fp]at h;obtain⟨v,m,q,p,rfl,rfl,a,j⟩:=h;have c:=fp.plain j (λx i=>f x (by simp[i]));have l:=f d (by simp);cases d with
  |list k o es=>simp[D.plain]at l
  |int k n=>simp[Rp]at a;simp[a.2.1,c]
  |bool b=>simp[Rp]at a;simp[a.2,c]
  |str s=>simp[Rp]at a;simp[a.2.1,c]
theorem fw.plain{w:World}:∀{es:M (M D)} {b:M Value} {F:Fp},fw w es b F->flat es->F=[]
 |[],_,_,h,_=>by simp only[fw]at h;exact h.2
 |e::es,_,_,h,a=>by
  simp only[fw]at h;obtain⟨v1,v2,i,g,rfl,rfl,f,d⟩:=h;rw[fp.plain f (a e (by simp)),fw.plain d (λx c=>a x (by simp[c]))];rfl
theorem Rp.rY{w:World}{d:D}{v:Value}{F:Fp}(h:Rp w d v F):one v=I:=by
 cases d with
 |int k n=>simp[Rp]at h;rw[h.1];rfl
 |bool b=>simp[Rp]at h;rw[h.1];rfl
 |str s=>simp[Rp]at h;rw[h.1];rfl
 |list k e es=>simp[Rp]at h;obtain⟨A,n,c,a,_⟩:=h;rw[a];rfl
theorem fp.rY{w:World}:∀{e:M D} {c:M Value} {F:Fp},fp w e c F->∀v∈c,one v=I
 |[],_,_,h=>by simp only[fp]at h;simp[h.1]
 |d::e,_,_,h=>by
  simp only[fp]at h;obtain⟨v,i,k,j,rfl,rfl,g,f⟩:=h;intro a b;rcases aL.1 b with rfl|b
  ·exact g.rY
  ·exact fp.rY f a b
theorem fw.rY{w:World}:∀{es:M (M D)} {c:M Value} {F:Fp},fw w es c F->∀v∈c,one v=I
 |[],_,_,h=>by simp only[fw]at h;simp[h.1]
 |e::es,_,_,h=>by
  simp only[fw]at h;obtain⟨v1,v2,i,g,rfl,rfl,f,d⟩:=h;intro a b;rcases ba.1 b with b|b
  ·exact f.rY a b
  ·exact fw.rY d a b
end
section
structure Row where
 es:List (List D)
 k:Nat
 fl:Bool
 deep:Bool
 app:Bool
 fz:Bool
inductive C where
 |d (x:D)
 |nil (k:Nat) (fl:Bool)
 |ref (r:Nat)
 |ptr (b o:Nat)
 |pQ (r k i o:Nat)
 |vj (cs:List D)
 |agg (cs:List C)
 |sh (cs:List C)
 |vz
 |any
instance:Inhabited C:=⟨.any⟩
mutual
def C.kill(i:Nat):C->C
 | .ref r=>if r=i then .any else .ref r
 | .ptr b o=>if b=i then .any else .ptr b o
 | .pQ r k a o=>if r=i then .any else .pQ r k a o
 | .agg cs=>.agg (C.kR i cs)
 | .sh cs=>.sh (C.kR i cs)
 |c=>c
def C.kR(i:Nat):List C->List C
 |[]=>[]
 |c::cs=>C.kill i c::C.kR i cs
end
inductive RV where
 |d (x:D)
 |row (r:Row)
inductive A where
 |val (agg:Bool) (cs:List RV)
 |box (cs:List RV)
structure St where
 sl:List (Nat×C)
 bx:List (Nat×List C)
 rw:List (Nat×Row)
def look{a:Type}:M (Nat×a)->Nat->u a
 |[],_=>O
 |(k,x)::l,d=>if k=d then Z x else look l d
def ti{a:Type}(l:M (Nat×a))(d:Nat):M (Nat×a):=l.filter (λp=>p.1 !=d)
def Tm(i:Nat)(l:M (Nat×C)):M (Nat×C):=l.map λp=>(p.1,p.2.kill i)
def Tl(i:Nat)(l:M (Nat×M C)):M (Nat×M C):=l.map λp=>(p.1,C.kR i p.2)
def St.kill(s:St)(i:Nat):St:=⟨Tm i s.sl,Tl i s.bx,s.rw⟩
def St.get(s:St)(d:Nat):C:=(look s.sl d).getD .any
def St.put(s:St)(a:u Nat)(c:C):St:=
 match a with
 |some d=>{s with sl:=(d,c)::s.sl }
 |none=>s
def St.fY(s:St)(b:Nat)(a:M C):St:={s with bx:=(b,a)::ti s.bx b }
def St.setRow(s:St)(r:Nat)(x:Row):St:={s with rw:=(r,x)::ti s.rw r }
def St.dd(s:St)(r:Nat):St:={s with rw:=ti s.rw r }
def St.lY(s:St)(b:Nat)(a:M C):St:=(s.kill b).fY b a
def St.newRow(s:St)(r:Nat)(x:Row):St:=(s.kill r).setRow r x
def yc(d j:Nat):Nat:=1000 * (d+1)+j
inductive KX where
 |s (d:Nat)
 |k (c:C)
def fW(s:St):KX->C
 | .s d=>s.get d
 | .k c=>c
def C.cells:C->M C
 | .agg cs=>cs
 |c=>[c]
def nth{a:Type}:M a->Nat->u a
 |[],_=>O
 |x::_,0=>Z x
 |_::l,i+1=>nth l i
def C.const:C->Bool
 | .d x=>D.plain x
 | .nil _ _=>I
 |_=>J
def C.cell:C->Bool
 | .d _=>I
 | .nil _ _=>I
 | .ref _=>I
 |_=>J
def HA:St->M C->u (M D×Bool×St)
 |s,[]=>Z ([],I,s)
 |s,c::cs=>
  match c with
  | .d x=>(HA s cs).map λ(b,e,a)=>(x::b,D.plain x && e,a)
  | .nil k f=>(HA s cs).map λ(b,e,a)=>(.list k f []::b,e,a)
  | .ref r=>
   match look s.rw r with
   |some x=>(HA (s.dd r) cs).map λ(b,e,a)=>(.list x.k x.fl x.es::b,x.deep && !x.fz && e,a)
   |none=>O
  |_=>O
def dV(a:M D):Bool:=a.all D.plain
def EI(k:Nat)(d:Bool):St->M C->u (M (M D)×Bool×St)
 |s,[]=>Z ([],I,s)
 |s,c::cs=>
  match HA s c.cells with
  |some (a,g,e)=>if a.length=k/\(d=I->dV a=I) then (EI k d e cs).map λ(es,b,f)=>(a::es,g && b,f) else O
  |none=>O
def room:Nat:=140737488355328
inductive KO where
 |mv (x:KX)
 |pick (c x y:KX)
 |alloc (zs:List C)
 |box (x:KX)
 |build (zs:List C) (ps:List (Nat×Nat×KX))
 |vn (k:Nat) (fl:Bool) (xs:List KX)
 |make (k by_:Nat) (fl:Bool) (zs:List D) (x:KX)
 |ld (n:Nat) (x:KX)
 |st (n:Nat) (x y:KX)
 |fa (o:Nat) (x:KX)
 |ia (k:Nat) (x i:KX)
 |Z3 (x i:KX)
 |bin (op:BinOp) (x y:KX)
 |Wi (op:BinOp) (x y:KX)
 |not (x:KX)
 |neg (x:KX)
 |conv (k:IntKind) (x:KX)
 |len (x:KX)
 |sln (x:KX)
 |app (k by_:Nat) (fl:Bool) (x y:KX)
 |min (x y:KX)
 |max (x y:KX)
 |ext (x:KX) (i:Nat)
 |slc (x hi:KX)
 |nck (x:KX)
 |P0 (x:KX)
 |call (f:Nat) (xs:List KX)
 |mrk (f:Nat) (x y:KX)
 |cut (k:Nat) (x:KX) (lo hi:Option KX)
 |VZ (x:KX) (lo hi:Option KX)
 |AZ (k:Nat) (x:KX) (lo hi:Option KX)
 |ixa (n k:Nat) (x i:KX)
 |Iy (k:Nat) (x y:KX)
 |zro (zs:List C)
 |jn (x y:KX)
 |yv (ins:Bool) (x i z:KX)
 |TI (x:KX)
structure KI where
 dst:Option Nat
 op:KO
 gd:Option (Nat×Bool)
structure KD where
 j:Nat
 q:Bool
 al:List Nat
 dn:List Nat
 i:KI
inductive KT where
 |nil
 |op (x:KD) (t:KT)
 |alt (x:KD) (t r:KT)
structure lE where
 s:List Nat
 b:List Nat
 r:List Nat
inductive K where
 |skip
 |Rf (ops:List KI) (kp:lE)
 |Wk (ops:KT) (kp:lE)
 |seq (a b:K)
 |cond (c:KX) (a b:K)
 |block (id:Nat) (a:K)
 |loop (a:K)
 |exit (id:Nat)
 |ret
 |share (r:Nat) (a:K)
 |Mu (d:Nat) (a:K)
inductive Ex where
 |norm
 |exit (id:Nat)
 |ret
def W8(op:BinOp)(k:IntKind)(a b:Int):u D:=
 match op with
 | .add=>Z (.int k (k.wrap (a+b)))
 | .sub=>Z (.int k (k.wrap (a - b)))
 | .mul=>Z (.int k (k.wrap (a * b)))
 | .lss=>Z (.bool (Z' (a < b)))
 | .leq=>Z (.bool (Z' (a<=b)))
 | .gtr=>Z (.bool (Z' (b < a)))
 | .geq=>Z (.bool (Z' (b<=a)))
 | .eql=>Z (.bool (Z' (a=b)))
 | .neq=>Z (.bool (!Z' (a=b)))
 | .quo=>if k=.i64/\0<=a/\1<=b then Z (.int k (a / b)) else if k=.i64/\a < 0/\1<=b then Z (.int k (-(-a / b))) else O
 | .rem=>if k=.i64/\0<=a/\1<=b then Z (.int k (a % b)) else if k=.i64/\a < 0/\1<=b then Z (.int k (-(-a % b))) else O
 |_=>O
def ku(a b:z):Bool:=Op.bytesLess a.toList b.toList
def W9(op:BinOp)(a b:z):u D:=
 match op with
 | .add=>if a.size+b.size<=maxLen then Z (.str (a++b)) else O
 | .eql=>Z (.bool (Z' (a=b)))
 | .neq=>Z (.bool (!Z' (a=b)))
 | .lss=>Z (.bool (ku a b))
 | .leq=>Z (.bool (ku a b ||decide (a=b)))
 | .gtr=>Z (.bool (!(ku a b ||decide (a=b))))
 | .geq=>Z (.bool (!ku a b))
 |_=>O
def W7(op:BinOp)(a b:Bool):u D:=
 match op with
 | .eql=>Z (.bool (Z' (a=b)))
 | .neq=>Z (.bool (!Z' (a=b)))
 |_=>O
def Ux(op:BinOp):C->C->u C
 | .d (.int k a),.d (.int c b)=>if k=c then (W8 op k a b).map .d else O
 | .d (.str a),.d (.str b)=>(W9 op a b).map .d
 |_,_=>O
def ni(s:St):C->u RV
 | .d x=>Z (.d x)
 | .nil k a=>Z (.d (.list k a []))
 | .ref r=>(look s.rw r).map λx=>.d (.list x.k x.fl x.es)
 |_=>O
def j_(s:St):C->u RV
 | .d x=>Z (.d x)
 | .nil k a=>Z (.row ⟨[],k,a,I,I,J⟩)
 | .ref r=>(look s.rw r).map .row
 |_=>O
def gB{a β:Type}(f:a->u β):M a->u (M β)
 |[]=>Z []
 |x::xs=>match f x with
  |some y=>(gB f xs).map (y::·)
  |none=>O
def C.isAgg:C->Bool
 | .agg _=>I
 |_=>J
def V8(s:St)(c:C):u A:=
 match c with
 | .ptr b 0=>match look s.bx b with
  |some a=>(gB (j_ s) a).map .box
  |none=>O
 |c=>(gB (ni s) c.cells).map (.val c.isAgg)
def A6(s:St):M C->u (M A)
 |[]=>Z []
 |c::cs=>match V8 s c with
  |some a=>(A6 s cs).map (a::·)
  |none=>O
def rowsOf:M C->M Nat
 |[]=>[]
 | .ref r::cs=>r::rowsOf cs
 |_::cs=>rowsOf cs
def tO(s:St):C->M Nat
 | .ptr b 0=>rowsOf ((look s.bx b).getD [])
 |_=>[]
def dN(s:St):M C->M Nat
 |[]=>[]
 |c::cs=>tO s c++dN s cs
def jG:M C->M Nat
 |[]=>[]
 |c::cs=>rowsOf c.cells++jG cs
def db:M C->M Nat
 |[]=>[]
 | .ptr b _::cs=>b::db cs
 |_::cs=>db cs
def RV.closed:RV->Bool
 | .d x=>D.plain x
 | .row r=>r.deep
def A.closed:A->Bool
 | .val _ cs=>cs.all RV.closed
 | .box cs=>cs.all RV.closed
def Row.share(r:Row):Row:={r with fz:=I,deep:=r.fl }
def eY(s:St):M Nat->St
 |[]=>s
 |r::rs=>match look s.rw r with
  |some x=>eY (s.setRow r x.share) rs
  |none=>eY s rs
def ft(d:Nat):Nat->M RV->St->M C×St
 |_,[],s=>([],s)
 |j,.d x::cs,s=>let (l,a):=ft d (j+1) cs s;(.d x::l,a)
 |j,.row r::cs,s=>let (l,a):=ft d (j+1) cs (s.newRow (yc d j) r);(.ref (yc d j)::l,a)
def l6(s:St):M C->M A->St
 | .ptr b 0::cs,.box a::outs=>let (l,c):=ft (b+500) 0 a s;l6 (c.fY b l) cs outs
 | .ptr _ 0::_,_=>s
 |_::cs,outs=>l6 s cs outs
 |[],_=>s
def gF(d:Nat):Nat->M A->St->M C×St
 |_,[],s=>([],s)
 |q,.val e a::rs,s=>
  let (l,c):=ft d (30 * q) a s
  let (m,b):=gF d (q+1) rs c
  ((if e then .agg l else l.headD .any)::m,b)
 |_,.box _::_,s=>([],s)
def kG:M Nat->Bool
 |[]=>I
 |x::xs=>!xs.contains x && kG xs
def fK(s:St):M Nat->St
 |[]=>s
 |r::rs=>fK (s.dd r) rs
def gG{a:Type}(l:M a)(o:Nat)(n:M a):M a:=l.take o++n++l.drop (o+n.length)
def A.short:A->Bool
 | .val _ cs=>n8 cs.length 30
 | .box _=>J
def fG(s:St):M Nat->St
 |[]=>s
 |b::a=>fG {s with bx:=ti s.bx b } a
def CS(a:M C):M (Nat×Nat×M C)->u (M C)
 |[]=>Z a
 |(o,n,cs)::b=>if cs.length=n/\o+n<=a.length/\cs.all C.cell=I then CS (gG a o cs) b else O
def AW:M C->M Nat
 |[]=>[]
 |c::cs=>rowsOf c.cells++AW cs
def DH(s:St)(a:M C):M Nat:=db a++dN s a++jG a
def bytesOf:M (M D)->u (M Int)
 |[]=>Z []
 |[.int .u8 n]::es=>(bytesOf es).map (n::·)
 |_=>O
def kq(s:St):C->u D
 | .d x=>match x with
  | .list k a []=>Z (.list k a [])
  | .list _ _ _=>O
  |x=>Z x
 | .nil k a=>Z (.list k a [])
 | .ref r=>match look s.rw r with
  |some row=>if row.deep=I/\row.fz=J then Z (.list row.k row.fl row.es) else O
  |none=>O
 |_=>O
def vT(s:St):M C->u (M D)
 |[]=>Z []
 |c::cs=>match kq s c with
  |some x=>(vT s cs).map (x::·)
  |none=>O
def rO(s:St):M C->M D->St->u St
 |[],[],acc=>Z acc
 | .ref r::cs,.list k b es::a,acc=>match look s.rw r with
  |some row=>if k=row.k/\b=row.fl then rO s cs a (acc.setRow r ⟨es,row.k,row.fl,I,J,J⟩) else O
  |none=>O
 | .ref _::_,_,_=>O
 |_::cs,_::a,acc=>rO s cs a acc
 |_,_,_=>O
section
variable (cf:Nat->M A->u (M A×M A)) (mf:Nat->Bool->M D->Int->u (M D×Int))
def yE(s:St)(d:u Nat)(f:Nat)(a:M C):u St:=
 match A6 s a with
 |none=>O
 |some as=>
  if kG (dN s a) && kG (db a) && (dN s a).all (λr=>!(jG a).contains r) then
   match cf f as with
   |none=>O
   |some (rs,outs)=>if rs.all A.short then
    let h:=if rs.all A.closed && outs.all A.closed then s else eY s (jG a)
    let g:=fG (fK h (dN s a)) (db a)
    let e:=l6 g a outs
    let (l,b):=gF (d.getD 0) 0 rs e
    Z (b.put d (match l with|[c]=>c|l=>.sh l))
    else O
  else O
def tQ(s:St)(o:u KX)(a:Nat):u Nat:=
 match o with
 |none=>Z a
 |some e=>match fW s e with
  | .d (.int .i64 n)=>if 0<=n then Z n.toNat else O
  |_=>O
def jf(s:St):KO->u C
 | .mv x=>Z (fW s x)
 | .pick c x y=>match fW s c with
  | .d (.bool b)=>Z (if b then fW s x else fW s y)
  |_=>O
 | .build g w=>(CS g (w.map λp=>(p.1,p.2.1,(fW s p.2.2).cells))).map .agg
 | .ld n x=>match fW s x with
  | .ptr b o=>match look s.bx b with
   |some f=>if n=0 then nth f o else if o+n<=f.length then Z (.agg ((f.drop o).take n)) else O
   |none=>O
  | .vj f=>if n=0 then (nth f 0).map .d else if n<=f.length then Z (.agg ((f.take n).map .d)) else O
  | .pQ r k i o=>match look s.rw r with
   |some row=>match nth row.es i with
    |some e=>if row.k=k/\o+max n 1<=k/\(dV ((e.drop o).take (max n 1)) ||!row.deep)=I then
      (if n=0 then (nth e o).map .d else Z (.agg (((e.drop o).take n).map .d))) else O
    |none=>O
   |none=>O
  |_=>O
 | .fa o x=>match fW s x with
  | .ptr b p=>Z (.ptr b (p+o))
  | .vj f=>Z (.vj (f.drop o))
  | .pQ r k i p=>Z (.pQ r k i (p+o))
  |_=>O
 | .ia k x i=>match fW s x,fW s i with
  | .d (.list j _ es),.d (.int .i64 n)=>if 0<=n/\j=k then (nth es n.toNat).map .vj else O
  | .ref r,.d (.int .i64 n)=>match look s.rw r with
   |some row=>if 0<=n/\n.toNat < row.es.length/\row.k=k then Z (.pQ r k n.toNat 0) else O
   |none=>O
  |_,_=>O
 | .zro g=>if g.all C.const then Z (.agg g) else O
 | .ixa n k x i=>match fW s x,fW s i with
  | .ptr b o,.d (.int .i64 m)=>if 0<=m/\m.toNat < n then Z (.ptr b (o+m.toNat * k)) else O
  |_,_=>O
 | .Z3 x i=>match fW s x,fW s i with
  | .d (.str t),.d (.int .i64 n)=>if 0<=n/\n.toNat < t.size then Z (.d (.int .u8 (eB t n.toNat))) else O
  |_,_=>O
 | .bin op x y=>Ux op (fW s x) (fW s y)
 | .Wi op x y=>match fW s x,fW s y with
  | .d (.bool a),.d (.bool b)=>(W7 op a b).map .d
  |_,_=>O
 | .not x=>match fW s x with
  | .d (.bool b)=>Z (.d (.bool (!b)))
  |_=>O
 | .neg x=>match fW s x with
  | .d (.int k a)=>Z (.d (.int k (k.wrap (-a))))
  |_=>O
 | .conv k x=>match fW s x with
  | .d (.int _ a)=>Z (.d (.int k (k.wrap a)))
  |_=>O
 | .len x=>match fW s x with
  | .d (.list _ _ es)=>Z (.d (.int .i64 es.length))
  | .nil _ _=>Z (.d (.int .i64 0))
  | .ref r=>match look s.rw r with
   |some row=>Z (.d (.int .i64 row.es.length))
   |none=>O
  |_=>O
 | .sln x=>match fW s x with
  | .d (.str t)=>Z (.d (.int .i64 t.size))
  |_=>O
 | .min x y=>match fW s x,fW s y with
  | .d (.int .i64 a),.d (.int .i64 b)=>Z (.d (.int .i64 (if b < a then b else a)))
  |_,_=>O
 | .max x y=>match fW s x,fW s y with
  | .d (.int .i64 a),.d (.int .i64 b)=>Z (.d (.int .i64 (if a < b then b else a)))
  |_,_=>O
 | .ext x i=>match fW s x with
  | .sh f=>nth f i
  |_=>O
 | .slc x y=>match fW s x,fW s y with
  | .d (.list k q es),.d (.int .i64 n)=>if 0<=n/\n.toNat<=es.length then Z (.d (.list k q (es.take n.toNat))) else O
  |_,_=>O
 | .VZ x h l=>match fW s x with
  | .d (.str t)=>match tQ s h 0,tQ s l t.size with
   |some a,Z b=>if a<=b/\b<=t.size then Z (.d (.str (t.extract a b))) else O
   |_,_=>O
  |_=>O
 | .AZ j x h l=>match fW s x with
  | .d (.list k q es)=>match tQ s h 0,tQ s l es.length with
   |some a,Z b=>if k=j/\a<=b/\b<=es.length then Z (.d (.list k q ((es.take b).drop a))) else O
   |_,_=>O
  |_=>O
 | .nck x=>match fW s x with
  | .ptr b o=>Z (.ptr b o)
  | .vj f=>Z (.vj f)
  | .pQ r k i o=>Z (.pQ r k i o)
  |_=>O
 | .P0 x=>match fW s x with
  | .ref r=>match look s.rw r with
   |some row=>if row.k=1 then (bytesOf row.es).map λv=>.d (.str ⟨(v.map λn=>dz n.toNat).toArray⟩) else O
   |none=>O
  |_=>O
 |_=>O
mutual
def C.iz(q i:Nat):C->C
 | .ref r=>if r=q then .ref i else if r=i then .any else .ref r
 | .pQ r k a o=>if r=q then .pQ i k a o else if r=i then .any else .pQ r k a o
 | .agg cs=>.agg (C.Ct q i cs)
 | .sh cs=>.sh (C.Ct q i cs)
 |c=>c
def C.Ct(q i:Nat):List C->List C
 |[]=>[]
 |c::cs=>C.iz q i c::C.Ct q i cs
end
def ZW(q i:Nat)(l:M (Nat×C)):M (Nat×C):=l.map λp=>(p.1,p.2.iz q i)
def ZV(q i:Nat)(l:M (Nat×M C)):M (Nat×M C):=l.map λp=>(p.1,C.Ct q i p.2)
def St.iz(s:St)(q i:Nat)(row:Row):St:=⟨ZW q i s.sl,ZV q i s.bx,(i,row)::ti (ti s.rw q) i⟩
def lx:M (M D)->u (M Bool)
 |[]=>Z []
 |[.bool b]::es=>(lx es).map (b::·)
 |_=>O
def dK:M Bool->M Bool->M Bool
 |a::as,b::c=>(a ||b)::dK as c
 |as,_=>as
def nQ:M Bool->M Bool->Bool
 |a::as,b::c=>(b && !a) ||nQ as c
 |_,_=>J
def IZ(s:St)(r:Nat):C->u (M (M D))
 | .d (.list 1 _ es)=>Z es
 | .ref q=>match look s.rw q with
  |some row=>if row.k=1/\q≠r then Z row.es else O
  |none=>O
 |_=>O
def nI(s:St)(k:Nat)(a:Bool):C->u (M (M D)×Bool×St)
 | .d (.list c b es)=>if c=k/\b=a then Z (es,a,s) else O
 | .nil _ _=>Z ([],I,s)
 | .ref q=>match look s.rw q with
  |some row=>if row.k=k/\row.fl=a then Z (row.es,(row.deep && !row.fz) ||a,s.dd q) else O
  |none=>O
 |_=>O
def zf(s:St)(ins:Bool)(a:Int):C->u (Int×M (M D)×Bool×St)
 | .d (.int .i64 b)=>if ins=J/\a < b then Z (b,[],I,s) else O
 | .ref q=>match look s.rw q with
  |some row=>if ins=I/\row.k=3/\row.fl=J/\row.app=I/\row.es≠[] then Z (a,row.es,row.deep && !row.fz,s.dd q) else O
  |none=>O
 |_=>O
def lP(s:St)(d:u Nat):KO->u St
 | .alloc w=>match d with
  |some b=>if w.all C.const then Z ((s.lY b w).put d (.ptr b 0)) else O
  |none=>O
 | .box x=>match d with
  |some b=>if (fW s x).cells.all C.cell then Z ((s.lY b (C.kR b (fW s x).cells)).put d (.ptr b 0)) else O
  |none=>O
 | .vn k j xs=>match d with
  |some r=>match EI k j s (xs.map (fW s)) with
   |some (es,m,h)=>if 0 < k then Z ((h.newRow r ⟨es,k,j,m,I,J⟩).put d (.ref r)) else O
   |none=>O
  |none=>O
 | .make k l j w x=>match d,fW s x with
  |some r,.d (.int .i64 n)=>if 0<=n/\n.toNat * l<=room/\n<=4611686018427387904 then Z ((s.newRow r ⟨bn n.toNat w,k,j,I,I,J⟩).put d (.ref r)) else O
  |_,_=>O
 | .st n x y=>match fW s x with
  | .ptr b o=>match look s.bx b with
   |some v=>if (fW s y).cells.all C.cell=I/\(fW s y).cells.length=n/\o+n<=v.length then Z (s.fY b (gG v o (fW s y).cells)) else O
   |none=>O
  | .pQ r k i o=>match HA s (fW s y).cells with
   |some (t,m,h)=>match look h.rw r with
    |some row=>match nth row.es i with
     |some e=>if row.k=k/\row.fz=J/\row.app=I/\t.length=n/\o+n<=k/\(row.fl=I->dV t=I)/\(m ||!row.deep)=I then
       Z (h.setRow r {row with es:=row.es.set i (gG e o t) }) else O
     |none=>O
    |none=>O
   |none=>O
  |_=>O
 | .app k l j x y=>match d with
  |none=>O
  |some d0=>match nI s k j (fW s y) with
   |none=>O
   |some (es,m,h)=>match fW s x with
    | .nil p B=>if p=k/\B=j/\es.length * l<=room/\es.length<=maxLen then Z ((h.newRow d0 ⟨es,k,j,m,I,J⟩).put d (.ref d0)) else O
    | .ref r=>match look h.rw r with
     |some row=>if row.k=k/\row.fl=j/\row.app=I/\(row.es.length+es.length) * l<=room/\row.es.length+es.length<=maxLen then
       Z ((h.newRow r {row with es:=row.es++es,deep:=row.deep && m }).put d (.ref r)) else O
     |none=>O
    |_=>O
 | .call f xs=>yE cf s d f (xs.map (fW s))
 | .cut k x F G=>match d with
  |none=>O
  |some _=>match fW s x with
   | .nil p j=>match tQ s F 0,tQ s G 0 with
    |some a,Z b=>if p=k/\a=0/\b=0 then Z (s.put d (.nil p j)) else O
    |_,_=>O
   | .ref r=>match look s.rw r with
    |some row=>match tQ s F 0,tQ s G row.es.length with
     |some a,Z b=>if row.k=k/\a<=b/\b<=row.es.length/\row.fz=J then Z ((s.newRow r {row with es:=(row.es.take b).drop a,app:=row.app && F.isNone }).put d (.ref r)) else O
     |_,_=>O
    |none=>O
   |_=>O
 | .Iy k x y=>match d,fW s x,fW s y with
  |some d0,.ref r,.d (.list p B es)=>match look s.rw r with
   |some row=>if row.k=k/\p=k/\B=I/\row.fl=I/\row.fz=J/\row.app=I/\es.length=row.es.length then
     Z ((s.setRow r {row with es:=es }).put (Z d0) (.d (.int .i64 es.length))) else O
   |none=>O
  |_,_,_=>O
 | .TI x=>match d with
  |some d0=>match fW s x with
   | .ref q=>match look s.rw q with
    |some row=>Z ((s.iz q (yc d0 0) row).put (Z d0) (.ref (yc d0 0)))
    |none=>O
   |c=>Z (s.put (Z d0) c)
  |none=>O
 | .jn x y=>match d,fW s x with
  |some d0,.ref r=>match look s.rw r,IZ s r (fW s y) with
   |some row,Z es=>if row.k=1/\row.fl=I/\row.fz=J/\row.app=I/\es.length=row.es.length then
     (match lx row.es,lx es with
     |some H,Z v=>if es≠[] then Z ((s.setRow r {row with es:=(dK H v).map λb=>[D.bool b] }).put (Z d0) (.d (.bool (nQ H v)))) else O
     |_,_=>O) else O
   |_,_=>O
  |_,_=>O
 | .yv ins x i g=>match d,fW s i with
  |some d0,.d (.int .i64 a)=>match zf s ins a (fW s g) with
   |some (b,es,m,h)=>match fW s x with
    | .ref r=>match look h.rw r with
     |some row=>if row.k=3/\row.fl=J/\row.app=I/\row.fz=J/\0<=a/\b<=row.es.length/\(row.es.length+es.length) * 56<=room then
       Z ((h.newRow r {row with es:=row.es.take a.toNat++es++row.es.drop b.toNat,deep:=row.deep && m }).put d (.ref r)) else O
     |none=>O
    |_=>O
   |none=>O
  |_,_=>O
 | .mrk f x y=>match d,fW s y with
  |some d0,.d (.int .i64 q)=>match vT s (fW s x).cells with
   |some t=>if kG (rowsOf (fW s x).cells) then (match mf f (fW s x).isAgg t q with
    |some (N,L)=>(rO s (fW s x).cells N (fK s (rowsOf (fW s x).cells))).map λK=>K.put (Z d0) (.d (.int .i64 L))
    |none=>O) else O
   |none=>O
  |_,_=>O
 |_=>O
def KO.kX:KO->Bool
 | .alloc _=>J
 | .box _=>J
 | .vn _ _ _=>J
 | .make _ _ _ _ _=>J
 | .st _ _ _=>J
 | .app _ _ _ _ _=>J
 | .call _ _=>J
 | .mrk _ _ _=>J
 | .cut _ _ _ _=>J
 | .Iy _ _ _=>J
 | .jn _ _=>J
 | .yv _ _ _ _=>J
 | .TI _=>J
 |_=>I
def Dp(s:St)(d:u Nat)(o:KO):u St:=
 if o.kX then (jf s o).map (s.put d) else lP cf mf s d o
def vB(s:St)(i:KI):u St:=
 match i.gd with
 |none=>Dp cf mf s i.dst i.op
 |some (g,want)=>match s.get g with
  | .d (.bool b)=>if b=want then Dp cf mf s i.dst i.op else Z (s.put i.dst .vz)
  | .vz=>Z (s.put i.dst .vz)
  |_=>O
def nO:M KI->St->u St
 |[],s=>Z s
 |i::is,s=>match vB cf mf s i with
  |some a=>nO is a
  |none=>O
def KO.QO:KO->Bool
 | .ld _ _=>I
 | .P0 _=>I
 |_=>J
def pU(s:St):KO->u (u Nat)
 | .ld _ x=>match fW s x with
  | .ptr b _=>Z (Z b)
  | .vj _=>Z O
  |_=>O
 | .P0 _=>O
 |_=>Z O
def eP(s:St)(d:u Nat):KO->M Nat
 | .st _ x y=>(match fW s x with
   | .ptr b _=>[b]
   | .pQ r _ _ _=>r::rowsOf (fW s y).cells
   |_=>[])
 | .vn _ _ xs=>d.toList++AW (xs.map (fW s))
 | .app _ _ _ x y=>d.toList++rowsOf [fW s x]++rowsOf [fW s y]
 | .call f xs=>DH s (xs.map (fW s))
 | .mrk _ x _=>rowsOf (fW s x).cells
 | .cut _ x _ _=>d.toList++rowsOf [fW s x]
 | .Iy _ x _=>d.toList++rowsOf [fW s x]
 | .jn x _=>d.toList++rowsOf [fW s x]
 | .yv _ x _ a=>d.toList++rowsOf [fW s x]++rowsOf [fW s a]
 |_=>d.toList
def po(c:M Nat)(a:M (M Nat×Nat)):u Nat->M (M Nat×Nat)
 |some b=>(c,b)::a
 |none=>a
def jQ(j:Nat)(a:M (M Nat×Nat)):M (M Nat×Nat):=a.filter λp=>!p.1.contains j
def iP{a:Type}(l:M (Nat×a)):M Nat->M (Nat×a)
 |[]=>[]
 |d::b=>match look l d with
  |some x=>(d,x)::iP l b
  |none=>iP l b
def St.dF(s:St)(a:lE):St:=⟨iP s.sl a.s,iP s.bx a.b,iP s.rw a.r⟩
def mi(x:KD)(a:M (M Nat×Nat))(s:St)(k:M (M Nat×Nat)->St->u St):u St:=
 match vB cf mf s x.i with
 |some b=>if (jQ x.j a).all (λp=>!(eP s x.i.dst x.i.op).contains p.2 && (look b.bx p.2).isSome && !(x.i.dst ==Z p.2)) then k (jQ x.j a) b else O
 |none=>O
open Classical in
noncomputable def both{c:Type}:u c->u c->u c
 |some a,Z b=>if a=b then Z a else O
 |_,_=>O
noncomputable def fP(e:lE):KT->M (M Nat×Nat)->St->u St
 | .nil,_,s=>Z (s.dF e)
 | .op ⟨j,quiet,h,f,i⟩ is,a,s=>
  if quiet then
   (match i.gd with
   |none=>(match jf s i.op,pU s i.op with
    |some c,Z b=>fP e is (po f a b) (s.put i.dst c)
    |_,_=>O)
   |some (g,want)=>match s.get g with
    | .d (.bool t)=>if t=want then (match jf s i.op,pU s i.op with
      |some c,Z b=>fP e is (po f a b) (s.put i.dst c)
      |_,_=>O) else fP e is a (s.put i.dst .vz)
    | .vz=>fP e is a (s.put i.dst .vz)
    |_=>O)
  else mi cf mf ⟨j,quiet,h,f,i⟩ a s (fP e is)
 | .alt x is r,a,s=>both (mi cf mf x a s (fP e is)) (fP e r a s)
def iter(f:St->u (Ex×St)):Nat->St->u (Ex×St)
 |0,_=>O
 |n+1,s=>match f s with
  |some (.norm,a)=>iter f n a
  |r=>r
def P8(s:St):C->C
 | .ref r=>match look s.rw r with
  |some x=>.d (.list x.k x.fl x.es)
  |none=>.ref r
 | .nil k a=>.d (.list k a [])
 |c=>c
def uk(s:St)(d:Nat):u St:=
 match s.get d with
 | .ref r=>match look s.rw r with
  |some x=>Z ((eY s [r]).put (Z d) (.d (.list x.k x.fl x.es)))
  |none=>O
 | .nil k c=>Z (s.put (Z d) (.d (.list k c [])))
 | .ptr b 0=>match look s.bx b with
  |some a=>Z ((eY s (rowsOf a)).fY b (a.map (P8 s)))
  |none=>Z s
 |_=>Z s
noncomputable def iW(n:Nat):K->St->u (Ex×St)
 | .skip,s=>Z (.norm,s)
 | .Rf ops f,s=>match nO cf mf ops s with
  |some e=>Z (.norm,e.dF f)
  |none=>O
 | .Wk ops f,s=>match fP cf mf f ops [] s with
  |some e=>Z (.norm,e)
  |none=>O
 | .seq a b,s=>match iW n a s with
  |some (.norm,e)=>iW n b e
  |r=>r
 | .cond c a b,s=>match fW s c with
  | .d (.bool t)=>if t then iW n a s else iW n b s
  |_=>O
 | .block id a,s=>match iW n a s with
  |some (.exit i,e)=>if i=id then Z (.norm,e) else Z (.exit i,e)
  |r=>r
 | .loop a,s=>iter (iW n a) n s
 | .exit id,s=>Z (.exit id,s)
 | .ret,s=>Z (.ret,s)
 | .share r a,s=>iW n a (eY s [r])
 | .Mu d a,s=>match uk s d with
  |some e=>iW n a e
  |none=>O
end
inductive KR where
 |t (d:Nat)
 |c (d n:Nat)
structure KF where
 np:Nat
 body:K
 res:List KR
def Bz(p:Nat)(a:A)(s:St):St:=
 match a with
 | .val d b=>let (l,c):=ft p 0 b s;c.put (Z p) (if d then .agg l else l.headD .any)
 | .box b=>let (l,c):=ft (p+500) 0 b s;(c.lY (900+p) l).put (Z p) (.ptr (900+p) 0)
def jW:Nat->M A->St->St
 |_,[],s=>s
 |p,a::as,s=>jW (p+1) as (Bz p a s)
def LW (s : St) : KR -> u (A × M Nat)
  | .t d => (gB (j_ s) (s.get d).cells).map λa => (.val (s.get d).isAgg a, rowsOf (s.get d).cells)
  | .c d n => match s.get d with
   | .ptr b 0 => match look s.bx b with
    | some cs => if n = 0 then (match cs with
        | [c] => (gB (j_ s) cs).map λa => (.val J a, rowsOf cs)
        | _ => O)
      else if cs.length = n then (gB (j_ s) cs).map λa => (.val I a, rowsOf cs) else O
    | none => O
   | _ => O
def AT(s:St):M KR->u (M A×M Nat)
 |[]=>Z ([],[])
 |r::rs=>match LW s r with
  |some (a,l)=>(AT s rs).map λ(as,b)=>(a::as,l++b)
  |none=>O
def VP(s:St)(p:Nat):A->u (M A×M Nat)
 | .val _ _=>Z ([],[])
 | .box _=>match look s.bx (900+p) with
  |some a=>(gB (j_ s) a).map λb=>([.box b],rowsOf a)
  |none=>O
def wW(s:St):Nat->M A->u (M A×M Nat)
 |_,[]=>Z ([],[])
 |p,a::as=>match VP s p a with
  |some (l,r)=>(wW s (p+1) as).map λ(c,b)=>(l++c,r++b)
  |none=>O
def leave(b:KF)(args:M A)(s:St):u (M A×M A):=
 match AT s b.res,wW s 0 args with
 |some (rs,l),Z (outs,a)=>if kG (l++a) then Z (rs,outs) else O
 |_,_=>O
noncomputable def GW(c:Nat->M A->u (M A×M A))(b:Nat->Bool->M D->Int->u (M D×Int))(n:Nat)(a:KF)(args:M A):u (M A×M A):=
 if args.length=a.np then
  match iW c b n a.body (jW 0 args ⟨[],[],[]⟩) with
  |some (.norm,s)=>leave a args s
  |some (.ret,s)=>leave a args s
  |_=>O
 else O
def VK(t:z):M (M D)->Int->u Int
 |[],_=>Z (-1)
 |(.str s::_)::es,i=>if s=t then Z i else VK t es (i+1)
 |_,_=>O
def XT(f:Nat)(as:M A):u (M A×M A):=
 if f=9001 then (match as with
  |[.val J [.d (.int .i64 n)]]=>Z ([.val J [.d (.str ⟨(Lib.itoa n).toArray⟩)]],[])
  |_=>O)
 else if f=9002 then (match as with
  |[.val J [.d (.str s)],.val J [.d (.int .u8 c)]]=>Z ([.val J [.d (.int .i64 (Lib.indexByte s.data.toList c.toNat.toUInt8))]],[])
  |_=>O)
 else if f=9003 then (match as with
  |[.val J [.d (.list 3 a es)],.val J [.d (.str t)]]=>(VK t es 0).map λi=>([.val J [.d (.int .i64 i)]],[])
  |_=>O)
 else O
noncomputable def Ag(T:Nat->u KF):Nat->Nat->M A->u (M A×M A)
 |0,_,_=>O
 |n+1,f,args=>match T f with
  |none=>O
  |some a=>if a.np=999 then XT f args else GW (Ag T n) (λ_ _ _ _=>O) n a args
end
section
open Go.RowKit
inductive Own where
 |free
 |box (b:Nat)
 |row (r:Nat)
 |dM
 deriving DecidableEq
structure Gh where
 h:Nat->Nat
 β:Nat->Nat
 sl:Nat->Value
 ω:Nat->Own
def eI(h:Nat->Nat)(F:Fp):Prop:=∀a∈F,a.2<=h a.1
def oZ(w:World)(g:Nat):Prop:=g < w.heap.size/\∀j,w.frozen? ⟨g,j,O⟩=J
mutual
def CR(γ:Gh)(w:World):C->Value->Prop
 | .d x,v=>∃F,Rp w x v F/\eI γ.h F
 | .nil k _,v=>v=.slice O 0 0/\0 < k
 | .ref r,v=>v=γ.sl r/\∃A n c,v=.slice A n c
 | .ptr b o,v=>v=.pointer (Z ⟨γ.β b,o,O⟩)
 | .pQ r k i o,v=>∃g p n c,γ.sl r=.slice (Z ⟨g,p,O⟩) n c/\v=.pointer (Z ⟨g,p+i * k+o,O⟩)
 | .vj cs,v=>∃b o a F,v=.pointer (Z ⟨b,o,O⟩)/\fp w cs a F/\eI γ.h F/\iA w b o a/\∀j,j < cs.length->o+j < γ.h b
 | .agg cs,v=>∃a,v=.agg a.toArray/\fq γ w cs a
 | .sh cs,v=>∃a,v=.tuple a.toArray/\fq γ w cs a
 | .vz,v=>v=undef
 | .any,_=>True
def fq(γ:Gh)(w:World):List C->List Value->Prop
 |[],a=>a=[]
 |c::cs,a=>∃v e,a=v::e/\CR γ w c v/\fq γ w cs e
end
def pY(h:Nat->Nat)(w:World)(x:Row)(v:Value)(F:M Nat):Prop:=
 ∃A n c,v=.slice A n c/\n=x.es.length/\n<=c/\c<=maxLen/\0 < x.k/\(∀e∈x.es,e.length=x.k)/\(x.fl=I->flat x.es)/\
  ((A=O/\c=0/\F=[])\/
   ∃g o a G,A=Z ⟨g,o,O⟩/\g < w.heap.size/\oZ w g/\fw w x.es a G/\iA w g o a/\h g<=o+n * x.k/\(x.fz=J->h g=0)/\
    (x.app=I->o=0/\∃T b,kJ w g T b/\b.length=c * x.k)/\
    (x.deep=I->F=g::G.map cz/\∀d∈G,h d.1=0/\oZ w d.1)/\(x.deep=J->F=[g]/\eI h G))
structure Inv (γ:Gh) (h0:Nat->Nat) (io:List Nat) (w0:World) (s:St) (f:Fm) (w:World):Prop where
 sl:∀d c,look s.sl d=some c->CR γ w c (f d)
 bx:∀b cs,look s.bx b=some cs->∃T vs,kJ w (γ.β b) T vs/\fq γ w cs vs/\γ.ω (γ.β b)=.box b
 rw:∀r x,look s.rw r=some x->∃F,pY γ.h w x (γ.sl r) F/\F.Nodup/\∀g∈F,γ.ω g=.row r
 own:∀g,γ.ω g≠.free->g < w.heap.size/\(w0.heap.size<=g\/g∈io)
 oq:∀g b,γ.ω g=.box b->γ.h g=0
 fQ:∀g,w.heap.size<=g->γ.h g=0
 os:w.os=w0.os
 tape:w.tape=w0.tape
 output:w.output=w0.output
 size:w0.heap.size<=w.heap.size
 frame:∀g,g < w0.heap.size->g∉io->w.heap[g]?=w0.heap[g]?
 cell:∀g j,g < w0.heap.size->j < h0 g->w.cell? ⟨g,j,none⟩=w0.cell? ⟨g,j,none⟩
 mono:∀g,g < w0.heap.size->h0 g<=γ.h g
 hold:∀g,g < w0.heap.size->g∉io->γ.h g=h0 g
 fR:∀g,oZ w0 g->oZ w g
section
variable {α:Type}
theorem eK(l:M (Nat×α))(d e:Nat):look (ti l d) e=if d=e then O else look l e:=by
 induction l with
 |nil=>simp[ti,look]
 |cons p l b=>
  obtain⟨k,x⟩:=p;unfold ti at b ⊢;by_cases h:k=d
  ·subst h;simp only[gZ,bne_self_eq_false,aF,if_false,b,look];by_cases a:k=e<;>simp[a]
  ·have c:(k !=d)=I:=by simp[h]
   simp only[gZ,c,if_true,look,b];by_cases a:k=e
   ·subst a;simp[m_ h]
   ·simp[a]
theorem ma(l:M (Nat×α)):∀(a:M Nat) (e:Nat) (x:α),look (iP l a) e=Z x->look l e=Z x
 |[],e,x,h=>by simp[iP,look]at h
 |d::a,e,x,h=>by
  unfold iP at h;cases hd:look l d with
  |none=>rw[hd]at h;exact ma l a e x h
  |some y=>
   rw[hd]at h;simp only[look]at h
   split at h
   ·rename_i b;subst b;rw[hd];exact h
   ·exact ma l a e x h
end
theorem yV(i:Nat)(l:M (Nat×C))(d:Nat):look (Tm i l) d=(look l d).map (C.kill i):=by
 induction l with
 |nil=>rfl
 |cons p l a=>
  obtain⟨k,x⟩:=p;unfold Tm at a ⊢;simp only[aW,look,a]
  split<;>rfl
theorem yU(i:Nat)(l:M (Nat×M C))(d:Nat):look (Tl i l) d=(look l d).map (C.kR i):=by
 induction l with
 |nil=>rfl
 |cons p l a=>
  obtain⟨k,x⟩:=p;unfold Tl at a ⊢;simp only[aW,look,a]
  split<;>rfl
theorem eI.mono{h a:Nat->Nat}{F:Fp}(b:eI h F)(c:∀g,h g<=a g):eI a F:=λe d=>aG (b e d) (c _)
theorem eI.keeps{h:Nat->Nat}{F:Fp}{w a:World}(b:eI h F)(d:∀g j,j < h g->a.cell? ⟨g,j,O⟩=w.cell? ⟨g,j,O⟩):vI F w a:=
 λf e j c=>d _ j (bR c (b f e))
theorem eI.sub{h:Nat->Nat}{F G:Fp}(b:eI h F)(c:∀a∈G,a∈F):eI h G:=λa d=>b a (c a d)
theorem eI.append{h:Nat->Nat}{F G:Fp}(c:eI h F)(d:eI h G):eI h (F++G):=λb a=>by
 rcases ba.1 a with a|a
 ·exact c b a
 ·exact d b a
mutual
theorem CR.move{γ f:Gh}{w y:World}(i:Nat)(p:∀g,γ.h g<=f.h g)(q:∀g j,j < γ.h g->y.cell? ⟨g,j,O⟩=w.cell? ⟨g,j,O⟩)(t:∀b,b≠i->f.β b=γ.β b)(s:∀r,r≠i->f.sl r=γ.sl r) :
  ∀(c:C) {v:Value},CR γ w c v->CR f y (C.kill i c) v
 | .d x,v,h=>by
  simp only[CR,C.kill]at h ⊢;obtain⟨F,n,l⟩:=h;exact⟨F,n.dF x (l.keeps q),l.mono p⟩
 | .nil _ _,v,h=>by simpa only [CR,C.kill] using h
 | .ref r,v,h=>by
  simp only[C.kill];split
  ·simp only[CR]
  ·rename_i A;simp only[CR]at h ⊢;rw[s r A];exact h
 | .ptr b o,v,h=>by
  simp only[C.kill];split
  ·simp only[CR]
  ·rename_i A;simp only[CR]at h ⊢;rw[t b A];exact h
 | .pQ r k a o,v,h=>by
  simp only[C.kill];split
  ·simp only[CR]
  ·rename_i A;simp only[CR]at h ⊢;rw[s r A];exact h
 | .vj cs,v,h=>by
  simp only[CR,C.kill]at h ⊢;obtain⟨b,o,m,F,n,l,D,K,H⟩:=h;refine⟨b,o,m,F,n,l.dF cs (D.keeps q),D.mono p,?_,λj B=>bR (H j B) (p b)⟩;intro j e G;have B:=(bq.1 G).1;rw[fp.length cs l]at B;rw[q b (o+j) (H j B)];exact K j e G
 | .agg cs,v,h=>by
  simp only[CR,C.kill]at h ⊢;obtain⟨m,n,l⟩:=h;exact⟨m,n,fq.move i p q t s cs l⟩
 | .sh cs,v,h=>by
  simp only[CR,C.kill]at h ⊢;obtain⟨m,n,l⟩:=h;exact⟨m,n,fq.move i p q t s cs l⟩
 | .vz,v,h=>by simpa only [CR,C.kill] using h
 | .any,v,h=>by simp only[CR,C.kill]
theorem fq.move{γ f:Gh}{w y:World}(i:Nat)(p:∀g,γ.h g<=f.h g)(q:∀g j,j < γ.h g->y.cell? ⟨g,j,O⟩=w.cell? ⟨g,j,O⟩)(t:∀b,b≠i->f.β b=γ.β b)(s:∀r,r≠i->f.sl r=γ.sl r) :
  ∀(cs:List C) {m:List Value},fq γ w cs m->fq f y (C.kR i cs) m
 |[],m,h=>by simpa only [fq,C.kR] using h
 |c::cs,m,h=>by
  simp only[fq,C.kR]at h ⊢;obtain⟨v,L,n,l,D⟩:=h;exact⟨v,L,n,CR.move i p q t s c l,fq.move i p q t s cs D⟩
end
mutual
theorem CR.mono{γ γ':Gh}{w s:World}(m:∀g,γ.h g<=γ'.h g)(n:∀g j,j < γ.h g->s.cell? ⟨g,j,O⟩=w.cell? ⟨g,j,O⟩)(q:γ'.β=γ.β)(p:γ'.sl=γ.sl) :
  ∀(c:C) {v:Value},CR γ w c v->CR γ' s c v
 | .d x,v,h=>by
  simp only[CR]at h ⊢;obtain⟨F,l,f⟩:=h;exact⟨F,l.dF x (f.keeps n),f.mono m⟩
 | .nil _ _,v,h=>by simpa only [CR] using h
 | .ref r,v,h=>by simp only[CR]at h ⊢;rw[p];exact h
 | .ptr b o,v,h=>by simp only[CR]at h ⊢;rw[q];exact h
 | .pQ r k a o,v,h=>by simp only[CR]at h ⊢;rw[p];exact h
 | .vj cs,v,h=>by
  simp only[CR]at h ⊢;obtain⟨b,o,i,F,l,f,y,D,B⟩:=h;refine⟨b,o,i,F,l,f.dF cs (y.keeps n),y.mono m,?_,λj t=>bR (B j t) (m b)⟩;intro j e A;have t:=(bq.1 A).1;rw[fp.length cs f]at t;rw[n b (o+j) (B j t)];exact D j e A
 | .agg cs,v,h=>by
  simp only[CR]at h ⊢;obtain⟨i,l,f⟩:=h;exact⟨i,l,fq.mono m n q p cs f⟩
 | .sh cs,v,h=>by
  simp only[CR]at h ⊢;obtain⟨i,l,f⟩:=h;exact⟨i,l,fq.mono m n q p cs f⟩
 | .vz,v,h=>by simpa only [CR] using h
 | .any,v,h=>by simp only[CR]
theorem fq.mono{γ γ':Gh}{w s:World}(m:∀g,γ.h g<=γ'.h g)(n:∀g j,j < γ.h g->s.cell? ⟨g,j,O⟩=w.cell? ⟨g,j,O⟩)(q:γ'.β=γ.β)(p:γ'.sl=γ.sl) :
  ∀(cs:List C) {i:List Value},fq γ w cs i->fq γ' s cs i
 |[],i,h=>by simpa only [fq] using h
 |c::cs,i,h=>by
  simp only[fq]at h ⊢;obtain⟨v,G,l,f,y⟩:=h;exact⟨v,G,l,CR.mono m n q p c f,fq.mono m n q p cs y⟩
end
theorem pY.dF{h r:Nat->Nat}{w k:World}{x:Row}{v:Value}{F:M Nat}(B:pY h w x v F)(i:∀g∈F,r g=h g/\k.heap[g]?=w.heap[g]?)(K:∀g,h g<=r g)(L:∀g j,j < h g->k.cell? ⟨g,j,O⟩=w.cell? ⟨g,j,O⟩):pY r k x v F:=by
 obtain⟨A,n,c,W,V,U,S,R,Q,P,q⟩:=B;refine⟨A,n,c,W,V,U,S,R,Q,P,?_⟩;rcases q with q|⟨g,o,s,G,a1,a2,a3,a4,a5,a6,Y,X,a9,l⟩
 ·exact .inl q
 ·have p:g∈F:=by
   cases hd:x.deep with
   |true=>rw[(a9 hd).1];simp
   |false=>rw[(l hd).1];simp
  have f:=(i g p).2;have H:vI G w k:=by
   cases hd:x.deep with
   |false=>exact (l hd).2.keeps L
   |true=>
    intro a d j _;exact World.cell?_of_block (w:=w) (i a.1 (by rw[(a9 hd).1];simp;exact .inr ⟨a.2,d⟩)).2
  refine .inr ⟨g,o,s,G,a1,Lr a2 f,?_,a4.dF _ H,a5.dF f,by rw[(i g p).1];exact a6,λb=>by rw[(i g p).1];exact Y b,?_,?_,?_⟩
  ·exact⟨Lr a2 f,λj=>by rw[World.frozen?_of_block (w:=w) f];exact a3.2 j⟩
  ·intro N;obtain⟨C,T,t,y,D⟩:=X N;exact⟨C,T,t,y.dF f,D⟩
  ·intro hd;obtain⟨e,b⟩:=a9 hd;refine⟨e,λa d=>?_⟩;have m:=i a.1 (by rw[e];simp;exact .inr ⟨a.2,d⟩);refine⟨by rw[m.1];exact (b a d).1,Lr (b a d).2.1 m.2,λj=>?_⟩;rw[World.frozen?_of_block (w:=w) m.2];exact (b a d).2.2 j
  ·intro hd;obtain⟨e,b⟩:=l hd;exact⟨e,b.mono K⟩
structure vG (γ:Gh) (M:Own->Prop) (w w':World):Prop where
 os:w'.os=w.os
 tape:w'.tape=w.tape
 output:w'.output=w.output
 size:w.heap.size<=w'.heap.size
 block:∀g,g < w.heap.size->¬M (γ.ω g)->w'.heap[g]?=w.heap[g]?
 cell:∀g j,j < γ.h g->w'.cell? ⟨g,j,none⟩=w.cell? ⟨g,j,none⟩
 fR:∀g,oZ w g->oZ w' g
section
variable {γ:Gh} {h0:Nat->Nat} {io:M Nat} {w0:World} {s:St} {f:Fm} {w:World}
theorem Inv.vl(d:Inv γ h0 io w0 s f w){b:World}{a:Own->Prop}(c:vG γ a w b):∀g j,j < γ.h g->b.cell? ⟨g,j,O⟩=w.cell? ⟨g,j,O⟩:=c.cell
theorem Inv.Sa(a:Inv γ h0 io w0 s f w){p:World}{M:Own->Prop}(i:vG γ M w p)(B:¬M .free)(C:∀b,M (.box b)->look s.bx b=O)(A:∀r,M (.row r)->look s.rw r=O):Inv γ h0 io w0 s f p where
 sl d c k:=(a.sl d c k).mono (γ':=γ) (λ_=>aD _) i.cell rfl rfl c
 bx b cs k:=by
  obtain⟨T,y,m,o,l⟩:=a.bx b cs k;refine⟨T,y,m.dF (i.block _ m.lt ?_),o.mono (γ':=γ) (λ_=>aD _) i.cell rfl rfl cs,l⟩;rw[l];intro n;rw[C b n]at k;cases k
 rw r x k:=by
  obtain⟨F,m,o,l⟩:=a.rw r x k;refine⟨F,m.dF (λg e=>⟨rfl,i.block g (a.own g (by rw[l g e];simp)).1 ?_⟩) (λ_=>aD _) i.cell,o,l⟩;rw[l g e];intro n;rw[A r n]at k;cases k
 own g e:=⟨bR (a.own g e).1 i.size,(a.own g e).2⟩
 oq:=a.oq
 fQ g e:=a.fQ g (aG i.size e)
 os:=i.os.trans a.os
 tape:=i.tape.trans a.tape
 output:=i.output.trans a.output
 size:=aG a.size i.size
 frame g e q:=by
  refine (i.block g (bR e a.size) ?_).trans (a.frame g e q);have:γ.ω g=.free:=by
   rcases jK (γ.ω g=.free) with h|h
   ·exact h
   ·rcases (a.own g h).2 with v|v
    ·omega
    ·exact absurd v q
  rw[this];exact B
 cell g j e t:=(i.cell g j (bR t (a.mono g e))).trans (a.cell g j e t)
 mono:=a.mono
 hold:=a.hold
 fR g e:=i.fR g (a.fR g e)
theorem Inv.sub(b:Inv γ h0 io w0 s f w){a:St}(i:∀d c,look a.sl d=Z c->look s.sl d=Z c)(g:∀d c,look a.bx d=Z c->look s.bx d=Z c)(e:∀d c,look a.rw d=Z c->look s.rw d=Z c):Inv γ h0 io w0 a f w:=
 {b with sl:=λd c h=>b.sl d c (i d c h),bx:=λd c h=>b.bx d c (g d c h),rw:=λd c h=>b.rw d c (e d c h) }
theorem Inv.get(a:Inv γ h0 io w0 s f w)(d:Nat):CR γ w (s.get d) (f d):=by
 unfold St.get;cases h:look s.sl d with
 |none=>simp[CR]
 |some c=>exact a.sl d c h
theorem Inv.put(b:Inv γ h0 io w0 s f w)(d:Nat)(c:C)(v:Value)(g:CR γ w c v):Inv γ h0 io w0 (s.put (Z d) c) (Dj f d v) w:=
 {b with
  sl:=λe j h=>by
   simp only[St.put,look]at h;by_cases a:d=e
   ·subst a;simp at h;subst h
    simpa [Dj] using g
   ·rw[if_neg a]at h;have:Dj f d v e=f e:=by
     unfold Dj;cases i:gR e d
     ·rfl
     ·exact absurd (l8 i).symm a
    rw[this];exact b.sl e j h }
theorem Inv.settle(a:Inv γ h0 io w0 s f w){h':Nat->Nat}{ω':Nat->Own}(l:∀g,γ.h g<=h' g)(n:∀g,h' g≠γ.h g->g < w.heap.size/\(w0.heap.size<=g\/g∈io)/\(∀b j,look s.bx b=Z j->γ.ω g≠.box b)/\∀r x,look s.rw r=Z x->γ.ω g≠.row r)
  (m:∀g,ω' g=γ.ω g\/((ω' g=.free\/ω' g=.dM)/\γ.ω g≠.free/\(∀b j,look s.bx b=Z j->γ.ω g≠.box b)/\∀r x,look s.rw r=Z x->γ.ω g≠.row r)) (v:∀g b,ω' g=.box b->h' g=0):Inv {γ with h:=h',ω:=ω' } h0 io w0 s f w where
 sl d c i:=(a.sl d c i).mono (γ':={γ with h:=h',ω:=ω' }) l (λ_ _ _=>rfl) rfl rfl c
 bx b j i:=by
  obtain⟨T,t,p,o,k⟩:=a.bx b j i;refine⟨T,t,p,o.mono (γ':={γ with h:=h',ω:=ω' }) l (λ_ _ _=>rfl) rfl rfl j,?_⟩;rcases m (γ.β b) with h|⟨_,_,h,_⟩
  ·exact h.trans k
  ·exact absurd k (h b j i)
 rw r x i:=by
  obtain⟨F,p,o,k⟩:=a.rw r x i;refine⟨F,p.dF (λg e=>⟨?_,rfl⟩) l (λ_ _ _=>rfl),o,λg e=>?_⟩
  ·rcases jK (h' g=γ.h g) with h|h
   ·exact h
   ·exact absurd (k g e) ((n g h).2.2.2 r x i)
  ·rcases m g with h|⟨_,_,_,h⟩
   ·exact h.trans (k g e)
   ·exact absurd (k g e) (h r x i)
 own g e:=by
  rcases m g with h|⟨_,h,_⟩
  ·exact a.own g (by rw[<- h];exact e)
  ·exact a.own g h
 oq:=v
 fQ g e:=by
  rcases jK (h' g=γ.h g) with h|h
  ·exact h.trans (a.fQ g e)
  ·have:=(n g h).1;omega
 os:=a.os
 tape:=a.tape
 output:=a.output
 size:=a.size
 frame:=a.frame
 cell:=a.cell
 mono g e:=aG (a.mono g e) (l g)
 hold g e q:=by
  rcases jK (h' g=γ.h g) with h|h
  ·exact h.trans (a.hold g e q)
  ·rcases (n g h).2.1 with h'|h'
   ·omega
   ·exact absurd h' q
 fR:=a.fR
end
end
section
open Go.RowKit
def km(N:Nat):Operand->KX->Bool
 | .tmp d,.s f=>d ==f && fV d N
 | .const (.int k n),.k (.d (.int e c))=>k ==e && n ==c && k.wrap n ==n
 | .const (.bool b),.k (.d (.bool g))=>b ==g
 | .const (.string s),.k (.d (.str a))=>s.data.toList ==a.data.toList && n8 s.size maxLen
 | .const (.slice O 0 0),.k (.nil k _)=>fV 0 k
 |_,_=>J
section
variable {γ:Gh} {h0:Nat->Nat} {io:M Nat} {w0:World} {s:St} {f:Fm} {w:World} {N:Nat}
theorem iM{k:IntKind}{n:Int}(h:k.wrap n=n):CR γ w (.d (.int k n)) (.int k n):=by
 simp only[CR,Rp];exact⟨[],by simp[h],λ_ h=>by simp at h⟩
theorem jj{b:Bool}:CR γ w (.d (.bool b)) (.bool b):=by
 simp only[CR,Rp];exact⟨[],by simp,λ_ h=>by simp at h⟩
theorem Cv{t:z}(h:t.size<=maxLen):CR γ w (.d (.str t)) (.string t):=by
 simp only[CR,Rp];exact⟨[],by simp[h],λ_ h=>by simp at h⟩
theorem iH{k:IntKind}{n:Int}{v:Value}(h:CR γ w (.d (.int k n)) v):v=.int k n/\k.wrap n=n:=by
 simp only[CR,Rp]at h;grind
theorem rQ{b:Bool}{v:Value}(h:CR γ w (.d (.bool b)) v):v=.bool b:=by
 simp only[CR,Rp]at h;grind
theorem EC{t:z}{v:Value}(h:CR γ w (.d (.str t)) v):v=.string t/\t.size<=maxLen:=by
 simp only[CR,Rp]at h;grind
theorem L4{a b:z}(h:a.data.toList=b.data.toList):a=b:=by
 cases a;simp_all
theorem cA(b:Inv γ h0 io w0 s f w){x:Operand}{kx:KX}(ok:km N x kx=I):CR γ w (fW s kx) ((fr f N).eval x):=by
 unfold km at ok
 split at ok
 ·simp only[ai,beq_iff_eq]at ok;obtain⟨rfl,hd⟩:=ok;rw[DR f (by simpa using hd)];exact b.get _
 ·simp only[ai,beq_iff_eq]at ok;obtain⟨⟨rfl,rfl⟩,a⟩:=ok;exact iM a
 ·simp only[beq_iff_eq]at ok;subst ok;exact jj
 ·simp only[ai,beq_iff_eq,Nat.ble_eq]at ok;obtain⟨c,a⟩:=ok;rw[L4 c]at a ⊢;exact Cv a
 ·simp only[oh]at ok;exact⟨rfl,ok⟩
 ·cases ok
end
structure rL (γ:Gh) (s:St) (w w':World):Prop where
 cell:∀g j,j < γ.h g->w'.cell? ⟨g,j,none⟩=w.cell? ⟨g,j,none⟩
 bx:∀b cs,look s.bx b=some cs->w'.heap[γ.β b]?=w.heap[γ.β b]?
 rw:∀r x,look s.rw r=some x->∀g,γ.ω g=.row r->w'.heap[g]?=w.heap[g]?
theorem rL.refl(a:Gh)(s:St)(w:World):rL a s w w:=⟨λ_ _ _=>rfl,λ_ _ _=>rfl,λ_ _ _ _ _=>rfl⟩
def DA(N:Nat):M Operand->M KX->Bool
 |[],[]=>I
 |x::xs,y::ys=>km N x y && DA N xs ys
 |_,_=>J
theorem GD{b:Gh}{g:Nat->Nat}{e:M Nat}{d:World}{s:St}{f:Fm}{w:World}{N:Nat}(c:Inv b g e d s f w):∀(a:M Operand) (ys:M KX),DA N a ys=I->fq b w (ys.map (fW s)) (a.map (fr f N).eval)
 |[],[],_=>by simp[fq]
 |[],_::_,h=>by simp[DA]at h
 |_::_,[],h=>by simp[DA]at h
 |x::a,y::ys,h=>by
  simp only[DA,ai]at h;simp only[aW,fq];exact⟨_,_,rfl,cA c h.1,GD c a ys h.2⟩
def okZ:Value->C->Bool
 | .int k n,.d (.int e c)=>k ==e && n ==c && k.wrap n ==n
 | .bool b,.d (.bool f)=>b ==f
 | .string s,.d (.str a)=>s.data.toList ==a.data.toList && n8 s.size maxLen
 | .slice O 0 0,.nil k _=>fV 0 k
 |_,_=>J
def LM:M Value->M C->Bool
 |[],[]=>I
 |v::a,c::cs=>okZ v c && LM a cs
 |_,_=>J
theorem AN{e:Gh}{w:World}:∀(a:M Value) (d:M C),LM a d=I->fq e w d a
 |[],[],_=>by simp[fq]
 |[],_::_,h=>by simp[LM]at h
 |_::_,[],h=>by simp[LM]at h
 |v::a,c::d,h=>by
  simp only[LM,ai]at h;simp only[fq];refine⟨v,a,rfl,?_,AN a d h.2⟩;have ok:=h.1;unfold okZ at ok
  split at ok
  ·simp only[ai,beq_iff_eq]at ok;obtain⟨⟨rfl,rfl⟩,b⟩:=ok;exact iM b
  ·simp only[beq_iff_eq]at ok;subst ok;exact jj
  ·simp only[ai,beq_iff_eq,Nat.ble_eq]at ok;obtain⟨f,b⟩:=ok;rw[L4 f]at b ⊢;exact Cv b
  ·simp only[oh]at ok;simp only[CR];exact⟨trivial,ok⟩
  ·cases ok
def MK(P:Program)(T:TypeId):u Bool:=
 match P.underlying T with
 |some (.struct _)=>Z I
 |some (.array _ _)=>Z I
 |some _=>Z J
 |none=>O
def pg(P:Program)(T:TypeId):u Nat:=(P.info? T).map (·.size)
theorem qB{P:Program}{T:TypeId}{b:Bool}(h:MK P T=Z b)(w:World):(isAgg T).run P w=.ok b w:=by
 unfold MK at h;cases a:P.underlying T with
 |none=>rw[a]at h;cases h
 |some d=>
  rw[a]at h;cases d<;>simp at h<;>subst h<;>simp[isAgg,run_underlying a]
theorem run_sizeOf{P:Program}{T:TypeId}{n:Nat}(h:pg P T=Z n)(w:World):(mW T).run P w=.ok n w:=by
 unfold pg at h;cases a:P.info? T with
 |none=>rw[a]at h;cases h
 |some i=>
  rw[a]at h;simp at h;subst h;simp[mW,typeInfo,a]
def Qr(P:Program)(T:TypeId)(i o:Nat):Bool:=
 match P.underlying T with
 |some (.struct fs)=>match fs[i]? with
  |some a=>a.offset ==o && (match pg P a.type with
   |some n=>fV 0 n
   |none=>J)
  |none=>J
 |_=>J
def sliceB(P:Program)(T:TypeId)(k:Nat):Bool:=
 match P.underlying T with
 |some (.slice a)=>pg P a ==Z k
 |_=>J
def ahA(P:Program)(T:TypeId)(n k:Nat):Bool:=
 match P.underlying T with
 |some (.array m a)=>m ==n && pg P a ==Z k
 |_=>J
def ahB(P:Program)(T:TypeId):Bool:=
 match P.underlying T with
 |some (.array _ a)=>(P.info? a).isSome
 |_=>J
def isStr(P:Program)(T:TypeId):Bool:=
 match P.underlying T with
 |some .string=>I
 |_=>J
def N3(P:Program)(T:TypeId):Bool:=
 match P.underlying T with
 |some (.slice _)=>I
 |_=>J
def L3(P:Program)(T:TypeId):u Nat:=
 match P.underlying T with
 |some (.slice a)=>pg P a
 |_=>O
def aeZ(P:Program)(T:TypeId):Bool:=
 match P.underlying T with
 |some (.slice a)=>(match P.underlying a with
  |some (.int .u8)=>I
  |_=>J)
 |_=>J
def isBool(P:Program)(T:TypeId):Bool:=
 match P.underlying T with
 |some .bool=>I
 |_=>J
def abG(P:Program)(T:TypeId):u IntKind:=
 match P.underlying T with
 |some (.int k)=>Z k
 |_=>O
def AO(P:Program)(T:TypeId):u (M (Nat×Nat)):=
 match P.underlying T with
 |some (.struct fs)=>fs.toList.mapM (λf=>(P.info? f.type).map λi=>(f.offset,i.size))
 |_=>O
def vq(P:Program)(T:TypeId):u (M Value):=((P.info? T).bind (·.zero)).map λa=>a.cells.toList
def xD(N:Nat)(pl:M (Nat×Nat)):M (Nat×Operand)->M (Nat×Nat×KX)->Bool
 |[],[]=>I
 |(i,x)::a,(o,n,kx)::b=>pl[i]? ==Z (o,n) && km N x kx && xD N pl a b
 |_,_=>J
def GB(N:Nat):u Operand->u KX->Bool
 |none,O=>I
 |some x,Z y=>km N x y
 |_,_=>J
theorem pe{e:Gh}{l:Nat->Nat}{h:M Nat}{g:World}{s:St}{f:Fm}{w:World}{N:Nat}(k:Inv e l h g s f w){o:u Operand}{kx:u KX}{a m:Nat}(c:GB N o kx=I)(b:tQ s kx a=Z m):PK (fr f N).eval o a m:=by
 cases o with
 |none=>
  cases kx with
  |none=>simp only[tQ,ae]at b;exact b.symm
  |some y=>simp[GB]at c
 |some x=>
  cases kx with
  |none=>simp[GB]at c
  |some y=>
   have d:=cA k c;simp only[tQ]at b
   split at b
   ·rename_i n j;rw[j]at d;obtain⟨i,_⟩:=iH d
    split at b
    ·simp only[ae]at b;simp only[PK,i]
     congr 1
     omega
    ·cases b
   ·cases b
def uV(P:Program)(N:Nat):Op->KO->Bool
 | .move x,.mv y=>km N x y
 | .assign x,.mv y=>km N x y
 | .pick c a b,.pick v A w=>km N c v && km N a A && km N b w
 | .build T p,.build m t=>(match vq P T,AO P T with
   |some d,Z pl=>LM d m && xD N pl p.toList t
   |_,_=>J)
 | .load T x,.ld n y=>km N x y && (if n=0 then MK P T ==Z J else MK P T ==Z I && pg P T ==Z n)
 | .fieldAddr T x i,.fa o y=>km N x y && Qr P T i o
 | .indexAddr T x i,.ia k y j=>km N x y && km N i j && sliceB P T k
 | .build T p,.zro m=>p.isEmpty && ahB P T && (match vq P T with
   |some d=>LM d m
   |none=>J)
 | .indexAddr T x i,.ixa n k y j=>km N x y && km N i j && ahA P T n k
 | .index T x i,.Z3 y j=>km N x y && km N i j && isStr P T
 | .binOp op T x y _,.bin g f e=>Z' (op=g) && km N x f && km N y e
 | .binOp op T x y _,.Wi g f e=>Z' (op=g) && km N x f && km N y e && isBool P T
 | .unOp .not _ x,.not y=>km N x y
 | .unOp .neg _ x,.neg y=>km N x y
 | .convert T s x,.conv k y=>km N x y && (abG P T).isSome && abG P s ==Z k
 | .call c,.len y=>(match c.callee,c.args.toList,c.argTypes.toList with
   | .builtin .len,[x],[T]=>km N x y && N3 P T
   |_,_,_=>J)
 | .call c,.sln y=>(match c.callee,c.args.toList,c.argTypes.toList with
   | .builtin .len,[x],[T]=>km N x y && isStr P T
   |_,_,_=>J)
 | .call c,.min y e=>(match c.callee,c.args.toList with
   | .builtin .min,[x,f]=>km N x y && km N f e
   |_,_=>J)
 | .call c,.max y e=>(match c.callee,c.args.toList with
   | .builtin .max,[x,f]=>km N x y && km N f e
   |_,_=>J)
 | .extract x i,.ext y j=>km N x y && i ==j
 | .slice T x O (Z h) O,.slc y j=>km N x y && km N h j && N3 P T && (L3 P T).isSome
 | .slice T x q r O,.VZ y l h=>km N x y && GB N q l && GB N r h && isStr P T
 | .slice T x q r O,.AZ k y l h=>km N x y && GB N q l && GB N r h && L3 P T ==Z k
 | .nilCheck x,.nck y=>km N x y
 | .convert T s x,.P0 y=>km N x y && isStr P s && aeZ P T
 |_,_=>J
theorem ef{a:Type}:∀(l:M a) (i:Nat),nth l i=l[i]?
 |[],i=>by simp[nth]
 |x::l,0=>by simp[nth]
 |x::l,i+1=>by simp[nth,ef l i]
theorem fq.length{d:Gh}{w:World}:∀{a:M C} {b:M Value},fq d w a b->b.length=a.length
 |[],_,h=>by simp only[fq]at h;simp[h]
 |c::a,_,h=>by
  simp only[fq]at h;obtain⟨v,f,rfl,_,e⟩:=h;simp[fq.length e]
theorem fq.at_{d:Gh}{w:World}:∀{b:M C} {e:M Value},fq d w b e->∀{i:Nat} {c:C},b[i]?=Z c->∃v,e[i]?=Z v/\CR d w c v
 |[],_,_,i,c,a=>by simp at a
 |x::b,_,h,i,c,a=>by
  simp only[fq]at h;obtain⟨v,j,rfl,g,f⟩:=h;cases i with
  |zero=>simp at a;subst a;exact⟨v,rfl,g⟩
  |succ i=>simp at a;simpa using fq.at_ f a
theorem fq.drop{b:Gh}{w:World}:∀{a:M C} {d:M Value} (n:Nat),fq b w a d->fq b w (a.drop n) (d.drop n)
 |a,_,0,h=>by simpa using h
 |[],_,n+1,h=>by simp only[fq]at h;subst h;simp[fq]
 |c::a,_,n+1,h=>by
  simp only[fq]at h;obtain⟨v,f,rfl,_,e⟩:=h
  simpa using fq.drop n e
theorem fq.take{b:Gh}{w:World}:∀{a:M C} {d:M Value} (n:Nat),fq b w a d->fq b w (a.take n) (d.take n)
 |a,_,0,h=>by simp[fq]
 |[],_,n+1,h=>by simp only[fq]at h;subst h;simp[fq]
 |c::a,_,n+1,h=>by
  simp only[fq]at h;obtain⟨v,g,rfl,f,e⟩:=h;simp only[cn,fq];exact⟨v,_,rfl,f,fq.take n e⟩
theorem fq.append{a:Gh}{w:World}:∀{d g:M C} {e f:M Value},fq a w d e->fq a w g f->fq a w (d++g) (e++f)
 |[],_,_,_,h,b=>by simp only[fq]at h;subst h;simpa using b
 |c::d,_,_,_,h,b=>by
  simp only[fq]at h;obtain⟨v,k,rfl,j,i⟩:=h;simp only[au,fq];exact⟨v,_,rfl,j,fq.append i b⟩
theorem fq.yv{a:Gh}{w:World}{f e:M C}{b c:M Value}(o:Nat)(h:fq a w f b)(d:fq a w e c):fq a w (gG f o e) (cO b o c):=by
 unfold gG cO;rw[<- d.length];exact ((h.take o).append d).append (h.drop _)
theorem fq.ofC{b:Gh}{w:World}:∀{a:M D} {c:M Value} {F:Fp},fp w a c F->eI b.h F->fq b w (a.map .d) c
 |[],_,_,h,_=>by simp only[fp]at h;simp[fq,h.1]
 |d::a,_,_,h,e=>by
  simp only[fp]at h;obtain⟨v,i,j,k,rfl,rfl,g,f⟩:=h;simp only[aW,fq];refine⟨v,i,rfl,?_,fq.ofC f (e.sub (by simp_all))⟩;simp only[CR];exact⟨j,g,e.sub (by simp_all)⟩
theorem CR.cells{g:Gh}{w:World}{c:C}{v:Value}(h:CR g w c v)(a:c.cells.all C.cell=I):fq g w c.cells v.cells.toList/\(c.isAgg=J->v.cells=#[v])/\(c.isAgg=I->∃f:M Value,v=.agg f.toArray):=by
 cases c with
 |agg o=>
  obtain⟨f,rfl,i⟩:=h;exact⟨by simpa [C.cells,Value.cells] using i,by simp[C.isAgg],λ_=>⟨f,rfl⟩⟩
 |d x=>
  have b:=h;obtain⟨F,j,_⟩:=h;have l:=j.rY;have e:v.cells=#[v]:=by cases v<;>simp_all[Value.cells,one]
  refine⟨?_,λ_=>e,by simp[C.isAgg]⟩;rw[e];exact⟨v,[],rfl,b,rfl⟩
 |nil k m=>
  have b:=h;obtain⟨rfl,_⟩:=h;refine⟨?_,λ_=>rfl,by simp[C.isAgg]⟩;exact⟨_,[],rfl,b,rfl⟩
 |ref r=>
  have b:=h;obtain⟨_,A,n,c,rfl⟩:=h;refine⟨?_,λ_=>rfl,by simp[C.isAgg]⟩;exact⟨_,[],rfl,b,rfl⟩
 |ptr _ _=>simp[C.cells,C.cell]at a
 |pQ _ _ _ _=>simp[C.cells,C.cell]at a
 |vj _=>simp[C.cells,C.cell]at a
 |sh _=>simp[C.cells,C.cell]at a
 |vz=>simp[C.cells,C.cell]at a
 |any=>simp[C.cells,C.cell]at a
theorem ZI(off:Nat):∀(b:M Value) (j:Nat) (A:Array Value),off+j+b.length<=A.size->(b.zipIdx j).foldl (λa p=>a.setIfInBounds (off+p.2) p.1) A=(cO A.toList (off+j) b).toArray
 |[],j,A,_=>by simp[cO]
 |v::b,j,A,h=>by
  simp only[aH]at h;simp only[List.zipIdx_cons,xN];rw[ZI off b (j+1) _ (by simp;omega),<- cQ,<- xd _ _ _ _ (by simp;omega)];simp
theorem T5(off:Nat)(b:M Value)(A:Array Value)(h:off+b.length<=A.size):b.toArray.zipIdx.foldl (λa (c,j)=>a.setIfInBounds (off+j) c) A=(cO A.toList off b).toArray:=by
 have d:=ZI off b 0 A (by simpa using h);simp_all
theorem Ny{r:Gh}{S:Nat->Nat}{B:M Nat}{A:World}{s:St}{f:Fm}{w:World}{N:Nat}(y:Inv r S B A s f w){pl:M (Nat×Nat)}{place:Nat->u (Nat×Nat)}(v:∀i,place i=pl[i]?) :
  ∀(k:M (Nat×Operand)) (l:M (Nat×Nat×KX)) (g:M C) (a:M Value) (d:M C),xD N pl k l=I->fq r w g a->CS g (l.map λp=>(p.1,p.2.1,(fW s p.2.2).cells))=Z d->
   ∃q:M Value,Instr.fill place a.toArray (k.map λp=>(p.1,(fr f N).eval p.2))=Z q.toArray/\fq r w d q
 |[],[],g,a,d,_,m,b=>by
  simp only[bD,CS,ae]at b;subst b;exact⟨a,rfl,m⟩
 |[],_::_,_,_,_,h,_,_=>by simp[xD]at h
 |_::_,[],_,_,_,h,_,_=>by simp[xD]at h
 |(i,x)::k,(o,n,kx)::l,g,a,d,h,m,b=>by
  simp only[xD,ai,beq_iff_eq]at h;obtain⟨⟨R,Q⟩,P⟩:=h;simp only[aW,CS]at b
  split at b
  ·rename_i H;obtain⟨c1,W,U⟩:=H;have F:=cA y Q;obtain⟨t,_,_⟩:=F.cells U;have G:=t.length;obtain⟨q,L,K⟩:=Ny y v k l _ _ d P (m.yv o t) b;refine⟨q,?_,K⟩;simp only[aW,Instr.fill,v,R];have V:((fr f N).eval x).cells.size=n:=by rw[<- eQ,G];exact c1
   have D:=m.length;rw[if_neg (by simp only[oQ];simp;omega)];have e:((fr f N).eval x).cells.zipIdx.foldl (λT (c,j)=>T.setIfInBounds (o+j) c) a.toArray=(cO a o ((fr f N).eval x).cells.toList).toArray:=by
    have:=T5 o ((fr f N).eval x).cells.toList a.toArray (by simp;omega)
    simpa using this
   rw[e];exact L
  ·cases b
theorem Xf{P:Program}{T:TypeId}{a:M Value}{pl:M (Nat×Nat)}(b:vq P T=Z a)(c:AO P T=Z pl)(parts:M (Nat×Value)):P.built T parts=Instr.fill (λi=>pl[i]?) a.toArray parts:=by
 unfold AO at c;unfold vq at b;cases d:P.info? T with
 |none=>rw[d]at b;simp at b
 |some f=>
  rw[d]at b;cases e:f.zero with
  |none=>simp[e]at b
  |some z0=>
   simp[e]at b;subst b
   split at c
   ·rename_i fs g;simp only[Program.built,d,g,e,c];simp
   ·cases c
section
variable {P:Program} {γ:Gh} {h0:Nat->Nat} {io:M Nat} {w0:World} {s:St} {f:Fm} {w:World} {N:Nat} {dst:u Tmp} {ty:TypeId} {pos:String} {aft:Array Edge} {gd:u (Nat×Bool)}
theorem acw(o:Inv γ h0 io w0 s f w){T:TypeId}{e:Array (Nat×Operand)}{h:M C}{j:M (Nat×Nat×KX)}{c:C}(b:uV P N (.build T e) (.build h j)=I)(g:jf s (.build h j)=Z c) :
  ∃v,CR γ w c v/\∀d,(execOp (fr f N).eval ⟨dst,.build T e,ty,pos,aft,gd⟩).run P d=.ok (.value v) d:=by
 simp only[uV]at b
 split at b
 ·rename_i a pl m n;simp only[ai]at b;simp only[jf,ak]at g;obtain⟨l,g,rfl⟩:=g;obtain⟨k,r,q⟩:=Ny o (place:=λi=>pl[i]?) (λ_=>rfl) e.toList j h a l b.2 (AN _ _ b.1) g;refine⟨.agg k.toArray,by simp only[CR];exact⟨k,rfl,q⟩,λd=>?_⟩;have p:=run_build (P:=P) d T (e.map λ(i,x)=>(i,(fr f N).eval x)) k.toArray (by rw[Xf m n];simpa using r);simp[execOp,p]
 ·cases b
theorem akI(j:Inv γ h0 io w0 s f w){T:TypeId}{o:Array (Nat×Operand)}{n:M C}{c:C}(e:uV P N (.build T o) (.zro n)=I)(g:jf s (.zro n)=Z c) :
  ∃v,CR γ w c v/\∀i,(execOp (fr f N).eval ⟨dst,.build T o,ty,pos,aft,gd⟩).run P i=.ok (.value v) i:=by
 simp only[uV,ai,Array.isEmpty_iff]at e;obtain⟨⟨rfl,h⟩,e⟩:=e
 split at e
 ·rename_i a d;simp only[jf]at g
  split at g
  ·simp only[ae]at g;subst g;refine⟨.agg a.toArray,by simp only[CR];exact⟨a,rfl,AN _ _ e⟩,λi=>?_⟩;have t:P.built T []=Z a.toArray:=by
    unfold vq at d;unfold ahB at h;cases j:P.info? T with
    |none=>rw[j]at d;simp at d
    |some p=>
     rw[j]at d;cases l:p.zero with
     |none=>simp[l]at d
     |some z0=>
      simp[l]at d;subst d
      split at h
      ·rename_i m b q;rw[cD]at h;obtain⟨x,k⟩:=h;simp[Program.built,j,q,l,k,Instr.fill]
      ·cases h
   have r:=run_build (P:=P) i T #[] a.toArray t;simp[execOp,r]
  ·cases g
 ·cases e
theorem afw(hi:Inv γ h0 io w0 s f w){T:TypeId}{x:Operand}{y:KX}{n:Nat}{c:C}(cU:uV P N (.load T x) (.ld n y)=I)(q:jf s (.ld n y)=Z c) :
  ∃v,CR γ w c v/\∀l,rL γ s w l->(execOp (fr f N).eval ⟨dst,.load T x,ty,pos,aft,gd⟩).run P l=.ok (.value v) l:=by
 simp only[uV,ai]at cU;obtain⟨hx,lC⟩:=cU;have K:=cA hi hx;have fin:∀(b o:Nat) (D:M Value),(fr f N).eval x=.pointer (Z ⟨b,o,O⟩)->(∀l,rL γ s w l->iA l b o D)->(n=0->D.length=1)->(n≠0->D.length=n)->
   ∀l,rL γ s w l->(execOp (fr f N).eval ⟨dst,.load T x,ty,pos,aft,gd⟩).run P l=.ok (.value (if n=0 then D.headD undef else .agg D.toArray)) l:=by
  intro b o D U L h1 X l t;by_cases B:n=0
  ·subst B;simp only[if_true,beq_iff_eq]at lC ⊢;obtain⟨v,rfl⟩:=dP.1 (h1 rfl);exact Mq (λw=>qB lC w) U (by have:=L l t 0 v rfl;simpa using this)
  ·simp only[if_neg B,ai,beq_iff_eq]at lC ⊢;exact Mr (λw=>qB lC.1 w) (λw=>run_sizeOf lC.2 w) U (X B) (L l t)
 simp only[jf]at q
 split at q
 ·rename_i b o W;rw[W]at K;simp only[CR]at K
  split at q
  ·rename_i cs L;obtain⟨T',D,h1,X,h3⟩:=hi.bx b cs L;have H:=X.length;have R:∀(m:Nat) l,rL γ s w l->iA l (γ.β b) o ((D.drop o).take m):=by
    intro m l t;have:=(h1.dF (t.bx b cs L)).QR;have h4:=this.sub o m
    simpa using h4
   by_cases B:n=0
   ·subst B;simp only[if_true,ef]at q;obtain⟨v,S,hc⟩:=X.at_ q;have dR:=(bq.1 S).1;have Y:(D.drop o).take 1=[v]:=by
     rw[pW,ry,S];rfl
    refine⟨v,hc,λl t=>?_⟩;have:=fin _ _ _ K (R 1) (λ_=>by rw[Y];rfl) (λh=>absurd rfl h) l t;rw[Y]at this
    simpa using this
   ·rw[if_neg B]at q
    split at q
    ·rename_i ho;simp only[ae]at q;subst q;refine⟨.agg ((D.drop o).take n).toArray,by simp only[CR];exact⟨_,rfl,(X.drop o).take n⟩,λl t=>?_⟩;have:=fin _ _ _ K (R n) (λh=>absurd h B) (λ_=>by simp;omega) l t
     simpa [B] using this
    ·cases q
  ·cases q
 ·rename_i cs W;rw[W]at K;simp only[CR]at K;obtain⟨b,o,D,F,U,U2,lg,L,hh⟩:=K;have H:=fp.length cs U2;have R:∀(m:Nat) l,rL γ s w l->iA l b o (D.take m):=by
   intro m l t;have:iA l b o D:=by
    intro j a hu;have hj:=(bq.1 hu).1;rw[t.cell b (o+j) (hh j (by omega))];exact L j a hu
   have h4:=this.sub 0 m
   simpa using h4
  by_cases B:n=0
  ·subst B;simp only[if_true,ef,ak]at q;obtain⟨d,hd,rfl⟩:=q;obtain⟨v,G,S,zA,hG⟩:=U2.at_ hd;have Y:D.take 1=[v]:=by
    rw[pW,List.head?_eq_getElem?,S];rfl
   refine⟨v,by simp only[CR];exact⟨G,zA,lg.sub hG⟩,λl t=>?_⟩;have:=fin _ _ _ U (R 1) (λ_=>by rw[Y];rfl) (λh=>absurd rfl h) l t;rw[Y]at this
   simpa using this
  ·rw[if_neg B]at q
   split at q
   ·rename_i ho;simp only[ae]at q;subst q;obtain⟨G,h4,h5⟩:=fp.take cs n U2;refine⟨.agg (D.take n).toArray,by simp only[CR];exact⟨_,rfl,fq.ofC h4 (lg.sub h5)⟩,λl t=>?_⟩;have:=fin _ _ _ U (R n) (λh=>absurd h B) (λ_=>by simp;omega) l t
    simpa [B] using this
   ·cases q
 ·rename_i r k i o W;rw[W]at K;simp only[CR]at K;obtain⟨g,p,m,cc,xu,U⟩:=K
  split at q
  ·rename_i row L
   split at q
   ·rename_i e Kg
    split at q
    ·rename_i hc;obtain⟨hk,ho,hpl⟩:=hc;subst hk;obtain⟨F,hR,_,ud⟩:=hi.rw r row L;obtain⟨A,n',c',q1,q2,q3,q4,q5,q6,q7,q8⟩:=hR;rw[xu]at q1;simp only[Value.slice.injEq]at q1;obtain⟨rfl,rfl,rfl⟩:=q1;rcases q8 with ⟨q8,_⟩|⟨g',p',xs,G,a1,a2,a3,a4,a5,a6,a7,a8,a9,vh⟩
     ·cases q8
     ·simp only[ae,Addr.mk.injEq,and_true]at a1;obtain⟨rfl,rfl⟩:=a1;rw[ef]at Kg;obtain⟨G',U2,hG'⟩:=a4.at_ q6 Kg;have hlx:=fw.length row.es a4 q6;have aeM:=(bq.1 Kg).1;have BJ:=q6 e (dS Kg);have hgF:g∈F:=by
       cases hd:row.deep with
       |true=>rw[(a9 hd).1];simp
       |false=>rw[(vh hd).1];simp
      have R:∀(m:Nat) l,rL γ s w l->iA l g (p+i * row.k+o) ((((xs.drop (i * row.k)).take row.k).drop o).take m):=by
       intro m l t;have h1:iA l g p xs:=a5.dF (t.rw r row L g (ud g hgF));have X:=(h1.sub (i * row.k) row.k).sub o m;exact X
      have adJ:∀(m:Nat),dV ((e.drop o).take m)=I\/row.deep=J->∃G2,fp w ((e.drop o).take m) ((((xs.drop (i * row.k)).take row.k).drop o).take m) G2/\eI γ.h G2:=by
       intro m V;obtain⟨G1,r1,s1⟩:=fp.drop e o U2;obtain⟨G2,Q,s2⟩:=fp.take _ m r1;refine⟨G2,Q,?_⟩;rcases V with V|V
       ·have:G2=[]:=Q.plain (by simpa [dV] using V);subst this;exact λ_ h=>by simp at h
       ·exact (vh V).2.sub (λbe W=>hG' be (s1 be (s2 be W)))
      have aiX:∀m,m=max n 1->dV ((e.drop o).take m)=I\/row.deep=J:=by
       intro m V;subst V
       simpa using hpl
      have H:((xs.drop (i * row.k)).take row.k).length=row.k:=by
       rw[fp.length e U2,BJ]
      by_cases B:n=0
      ·subst B;simp only[if_true,ef,ak]at q;obtain⟨d,hd,rfl⟩:=q;obtain⟨G2,Q,s2⟩:=adJ 1 (aiX 1 (by simp));have Y:(e.drop o).take 1=[d]:=by rw[pW,ry,hd];rfl
       rw[Y]at Q;obtain⟨v,G3,S,zA,hG4⟩:=Q.at_ (i:=0) (d:=d) rfl;have e2:(((xs.drop (i * row.k)).take row.k).drop o).take 1=[v]:=by
        have As:=fp.length _ Q;simp only[aH,aJ]at As;obtain⟨a,hu⟩:=dP.1 As;rw[hu]at S ⊢;simp at S;rw[S]
       refine⟨v,by simp only[CR];exact⟨G3,zA,s2.sub hG4⟩,λl t=>?_⟩;have:=fin _ _ _ U (R 1) (λ_=>by rw[e2];rfl) (λh=>absurd rfl h) l t;rw[e2]at this
       simpa using this
      ·rw[if_neg B]at q;simp only[ae]at q;subst q;have aeO:max n 1=n:=by omega
       obtain⟨G2,Q,s2⟩:=adJ n (aiX n aeO.symm);refine⟨.agg ((((xs.drop (i * row.k)).take row.k).drop o).take n).toArray,by simp only[CR];exact⟨_,rfl,fq.ofC Q s2⟩,λl t=>?_⟩;have:=fin _ _ _ U (R n) (λh=>absurd h B) (λ_=>by simp only[aY,dH,H];omega) l t
       simpa [B] using this
    ·cases q
   ·cases q
  ·cases q
 ·cases q
theorem anB(Y:Inv γ h0 io w0 s f w){T:TypeId}{x:Operand}{y:KX}{i o:Nat}{c:C}(K:uV P N (.fieldAddr T x i) (.fa o y)=I)(e:jf s (.fa o y)=Z c) :
  ∃v,CR γ w c v/\∀l,(execOp (fr f N).eval ⟨dst,.fieldAddr T x i,ty,pos,aft,gd⟩).run P l=.ok (.value v) l:=by
 simp only[uV,ai]at K;obtain⟨S,h⟩:=K;have d:=cA Y S;unfold Qr at h
 split at h
 ·rename_i fs A
  split at h
  ·rename_i fd H;simp only[ai,beq_iff_eq]at h;obtain⟨U,B⟩:=h
   split at B
   ·rename_i n V;simp only[oh]at B;obtain⟨m,rfl⟩:∃m,n=m+1:=⟨n - 1,by omega⟩
    have fin:∀b p,(fr f N).eval x=.pointer (Z ⟨b,p,O⟩)->∀l,(execOp (fr f N).eval ⟨dst,.fieldAddr T x i,ty,pos,aft,gd⟩).run P l=.ok (.value (.pointer (Z ⟨b,p+o,O⟩))) l:=
     λb p D l=>Uk A H (λw=>run_sizeOf V w) U D
    simp only[jf]at e
    split at e
    ·rename_i b p t;rw[t]at d;simp only[CR]at d;simp only[ae]at e;subst e;exact⟨_,by simp only[CR],fin _ _ d⟩
    ·rename_i cs t;rw[t]at d;simp only[CR]at d;simp only[ae]at e;subst e;obtain⟨b,p,L,F,D,U2,Q,W,hh⟩:=d;obtain⟨G,h4,h5⟩:=fp.drop cs o U2;refine⟨_,?_,fin _ _ D⟩;simp only[CR];refine⟨b,p+o,L.drop o,G,rfl,h4,Q.sub h5,?_,?_⟩
     ·intro j a A;rw[fI]at A;rw[cQ];exact W _ a A
     ·intro j X;rw[dH]at X;rw[cQ];exact hh _ (by omega)
    ·rename_i r k R p t;rw[t]at d;simp only[CR]at d;simp only[ae]at e;subst e;obtain⟨g,q,n,cc,h1,h2⟩:=d;refine⟨_,?_,fin _ _ h2⟩;simp only[CR];exact⟨g,q,n,cc,h1,by rw[cQ (q+R * k)]⟩
    ·cases e
   ·cases B
  ·cases h
 ·cases h
theorem anC(L:Inv γ h0 io w0 s f w){T:TypeId}{x ix:Operand}{y j:KX}{k:Nat}{c:C}(Y:uV P N (.indexAddr T x ix) (.ia k y j)=I)(d:jf s (.ia k y j)=Z c) :
  ∃v,CR γ w c v/\∀t,(execOp (fr f N).eval ⟨dst,.indexAddr T x ix,ty,pos,aft,gd⟩).run P t=.ok (.value v) t:=by
 simp only[uV,ai]at Y;obtain⟨⟨hx,hj⟩,h⟩:=Y;have g:=cA L hx;have B:=cA L hj;unfold sliceB at h
 split at h
 ·rename_i a W;simp only[beq_iff_eq]at h;simp only[jf]at d
  split at d
  ·rename_i p fl es n q K;rw[q]at g;rw[K]at B;obtain⟨D,_⟩:=iH B
   split at d
   ·rename_i Q;obtain⟨h1,rfl⟩:=Q;simp only[ef,ak]at d;obtain⟨e,S,rfl⟩:=d;simp only[CR,Rp]at g;obtain⟨F,⟨A,m,cc,q1,q2,q3,q4,q5,q6,H,l⟩,V⟩:=g;have dR:=(bq.1 S).1;rcases l with ⟨l,_⟩|⟨_,b,o,xs,G,rfl,rfl,a2,a3⟩
    ·omega
    ·refine⟨.pointer (Z ⟨b,o+n.toNat * p,O⟩),?_,λt=>u_ W (λw=>run_sizeOf h w) q1 D (by omega) (by omega)⟩;obtain⟨G',U2,R⟩:=a2.at_ H S;simp only[CR];refine⟨b,_,_,G',rfl,U2,V.sub (λbe q=>by simp[R be q]),a3.sub _ _,?_⟩;intro i rE;have BJ:=H e (dS S);have hs:=V (b,o+m * p) (by simp);simp only at hs
     have:n.toNat * p+p<=m * p:=by
      rw[<- j5];exact fJ _ (by omega)
     omega
   ·cases d
  ·rename_i r n q K;rw[q]at g;rw[K]at B;obtain⟨D,_⟩:=iH B
   split at d
   ·rename_i row hl
    split at d
    ·rename_i Q;obtain⟨h1,h2,rfl⟩:=Q;simp only[ae]at d;subst d;simp only[CR]at g;obtain⟨g,_⟩:=g;obtain⟨F,hR,_,ud⟩:=L.rw r row hl;obtain⟨A,n',c',q1,q2,q3,q4,q5,q6,H,l⟩:=hR;rcases l with ⟨rfl,l,_⟩|⟨X,U,xs,G,rfl,a2,a3,a4,a5,a6,a7,a8,a9,vh⟩
     ·omega
     ·refine⟨.pointer (Z ⟨X,U+n.toNat * row.k,O⟩),?_,λt=>u_ W (λw=>run_sizeOf h w) (g.trans q1) D (by omega) (by omega)⟩;simp only[CR];exact⟨X,U,n',c',q1,by simp⟩
    ·cases d
   ·cases d
  ·cases d
 ·cases h
theorem aaN{d:Operand->Value}{x y:Operand}{b o n:Nat}{i:Nat}{a:Int}{T c:TypeId}{k:Nat}(l:P.underlying T=Z (.array n c))(m:∀w,(mW c).run P w=.ok k w)(g:d x=.pointer (Z ⟨b,o,O⟩))(e:d y=.int .i64 a)(j:a=(i:Int))(h:i < n) :
  (execOp d ⟨dst,.indexAddr T x y,ty,pos,aft,gd⟩).run P w=.ok (.value (.pointer (Z ⟨b,o+i * k,O⟩))) w:=by
 subst j;simp[execOp,Instr.indexAt,g,e,asIntOf,Instr.sureAddr,run_underlying l,m,qG,h]
theorem akD(i:Inv γ h0 io w0 s f w){T:TypeId}{x ix:Operand}{y j:KX}{n k:Nat}{c:C}(l:uV P N (.indexAddr T x ix) (.ixa n k y j)=I)(d:jf s (.ixa n k y j)=Z c) :
  ∃v,CR γ w c v/\∀g,(execOp (fr f N).eval ⟨dst,.indexAddr T x ix,ty,pos,aft,gd⟩).run P g=.ok (.value v) g:=by
 simp only[uV,ai]at l;obtain⟨⟨A,F⟩,e⟩:=l;have h:=cA i A;have p:=cA i F;unfold ahA at e
 split at e
 ·rename_i m a B;simp only[ai,beq_iff_eq]at e;obtain⟨rfl,t⟩:=e;simp only[jf]at d
  split at d
  ·rename_i b o q H D;rw[H]at h;rw[D]at p;obtain⟨r,_⟩:=iH p;simp only[CR]at h
   split at d
   ·rename_i G;simp only[ae]at d;subst d;exact⟨_,by simp only[CR],λg=>aaN B (λw=>run_sizeOf t w) h r (by omega) G.2⟩
   ·cases d
  ·cases d
 ·cases e
theorem akE(g:Inv γ h0 io w0 s f w){T:TypeId}{x ix:Operand}{y j:KX}{c:C}(h:uV P N (.index T x ix) (.Z3 y j)=I)(a:jf s (.Z3 y j)=Z c) :
  ∃v,CR γ w c v/\∀b,(execOp (fr f N).eval ⟨dst,.index T x ix,ty,pos,aft,gd⟩).run P b=.ok (.value v) b:=by
 simp only[uV,ai]at h;obtain⟨⟨m,q⟩,d⟩:=h;have e:=cA g m;have i:=cA g q;unfold isStr at d
 split at d
 ·rename_i o;simp only[jf]at a
  split at a
  ·rename_i t n A p;rw[A]at e;rw[p]at i;obtain⟨k,_⟩:=iH i;obtain⟨l,_⟩:=EC e
   split at a
   ·rename_i r;simp only[ae]at a;subst a;refine⟨_,iM ?_,λb=>aaP o l k (by omega) r.2⟩;have:=ue t n.toNat;simp[IntKind.wrap,IntKind.bits,IntKind.signed];omega
   ·cases a
  ·cases a
 ·cases d
theorem BN{n:Int}(h:IntKind.i64.wrap n=n):-9223372036854775808<=n/\n<=9223372036854775807:=by
 simp[IntKind.wrap,IntKind.bits,IntKind.signed]at h
 split at h<;>omega
theorem bH{n:Int}(h:-9223372036854775808<=n/\n<=9223372036854775807):IntKind.i64.wrap n=n:=IntWalk.i64_in _ h
theorem wrap_wrap(k:IntKind)(n:Int):k.wrap (k.wrap n)=k.wrap n:=by
 cases k<;>simp only[IntKind.wrap,IntKind.bits,IntKind.signed]<;>(repeat' split)<;>simp_all<;>omega
theorem akB(L:Inv γ h0 io w0 s f w){op:BinOp}{T S:TypeId}{x K:Operand}{y H:KX}{c:C}(Q:uV P N (.binOp op T x K S) (.bin op y H)=I)(j:jf s (.bin op y H)=Z c) :
  ∃v,CR γ w c v/\∀g,(execOp (fr f N).eval ⟨dst,.binOp op T x K S,ty,pos,aft,gd⟩).run P g=.ok (.value v) g:=by
 simp only[uV,ai]at Q;obtain⟨⟨_,U⟩,W⟩:=Q;have r:=cA L U;have t:=cA L W;simp only[jf]at j;unfold Ux at j
 split at j
 ·rename_i k a X b F B;rw[F]at r;rw[B]at t;obtain⟨i,m⟩:=iH r;obtain⟨h,p⟩:=iH t
  split at j
  ·rename_i V;subst V;simp only[ak]at j;obtain⟨d,hd,rfl⟩:=j;unfold W8 at hd
   split at hd
   all_goals (try (simp only[ae]at hd;subst hd))
   ·exact⟨_,iM (wrap_wrap _ _),λg=>by simp[execOp,i,h,binOp,Op.intArith,eqGuard]⟩
   ·exact⟨_,iM (wrap_wrap _ _),λg=>by simp[execOp,i,h,binOp,Op.intArith,eqGuard]⟩
   ·exact⟨_,iM (wrap_wrap _ _),λg=>by simp[execOp,i,h,binOp,Op.intArith,eqGuard]⟩
   ·exact⟨_,jj,λg=>Pl i h rfl⟩
   ·exact⟨_,jj,λg=>alW i h rfl⟩
   ·exact⟨_,jj,λg=>alV i h rfl⟩
   ·exact⟨_,jj,λg=>alU i h rfl⟩
   ·exact⟨_,jj,λg=>alT i h rfl⟩
   ·exact⟨_,jj,λg=>alX i h (by simp)⟩
   ·split at hd
    ·rename_i l;obtain⟨rfl,q,G⟩:=l;simp only[ae]at hd;subst hd;have R:=BN m;have A:0<=a / b/\a / b<=a:=⟨Int.ediv_nonneg q (by omega),Int.ediv_le_self _ q⟩
     have o:¬b=0:=by omega
     have e:a.tdiv b=a / b:=Int.tdiv_eq_ediv_of_nonneg q;have n:IntKind.i64.wrap (a / b)=a / b:=bH (by omega);exact⟨_,iM n,λg=>by simp[execOp,i,h,binOp,Op.intDiv,eqGuard,o,e,n]⟩
    ·split at hd
     ·rename_i l;obtain⟨rfl,q,G⟩:=l;simp only[ae]at hd;subst hd;have R:=BN m;have A:0<=-a / b/\-a / b<=-a:=⟨Int.ediv_nonneg (by omega) (by omega),Int.ediv_le_self _ (by omega)⟩
      have o:¬b=0:=by omega
      have e:a.tdiv b=-(-a / b):=by
       have:=Int.neg_tdiv (-a) b;rw[vd]at this;rw[this,Int.tdiv_eq_ediv_of_nonneg (by omega)]
      have n:IntKind.i64.wrap (-(-a / b))=-(-a / b):=bH (by omega);exact⟨_,iM n,λg=>by simp[execOp,i,h,binOp,Op.intDiv,eqGuard,o,e,n]⟩
     ·cases hd
   ·split at hd
    ·rename_i l;obtain⟨rfl,q,G⟩:=l;simp only[ae]at hd;subst hd;have R:=BN m;have A:0<=a % b/\a % b < b:=⟨Int.emod_nonneg _ (by omega),Int.emod_lt_of_pos _ (by omega)⟩
     have D:=BN p;have o:¬b=0:=by omega
     have e:a.tmod b=a % b:=Int.tmod_eq_emod_of_nonneg q;have n:IntKind.i64.wrap (a % b)=a % b:=bH (by omega);exact⟨_,iM n,λg=>by simp[execOp,i,h,binOp,Op.intDiv,eqGuard,o,e]⟩
    ·split at hd
     ·rename_i l;obtain⟨rfl,q,G⟩:=l;simp only[ae]at hd;subst hd;have A:0<=-a % b/\-a % b < b:=⟨Int.emod_nonneg _ (by omega),Int.emod_lt_of_pos _ (by omega)⟩
      have D:=BN p;have o:¬b=0:=by omega
      have e:a.tmod b=-(-a % b):=by
       have:=Int.neg_tmod (-a) b;rw[vd]at this;rw[this,Int.tmod_eq_emod_of_nonneg (by omega)]
      have n:IntKind.i64.wrap (-(-a % b))=-(-a % b):=bH (by omega);exact⟨_,iM n,λg=>by simp[execOp,i,h,binOp,Op.intDiv,eqGuard,o,e]⟩
     ·cases hd
   ·cases hd
  ·cases j
 ·rename_i a b F B;rw[F]at r;rw[B]at t;obtain⟨i,m⟩:=EC r;obtain⟨h,p⟩:=EC t;simp only[ak]at j;obtain⟨d,hd,rfl⟩:=j;unfold W9 at hd
  split at hd
  ·split at hd
   ·rename_i l;simp only[ae]at hd;subst hd;have o:¬(((a.size+b.size:Nat):Int) > IntKind.i64.max):=by simp[IntKind.max,IntKind.signed,IntKind.bits];simp[maxLen]at l;omega
    refine⟨_,Cv (by simpa using l),λg=>?_⟩;simp only[execOp,i,h,binOp,Op.stringOp,eqGuard,if_neg o];simp
   ·cases hd
  ·simp only[ae]at hd;subst hd;exact⟨_,jj,λg=>ag7 i h rfl⟩
  ·simp only[ae]at hd;subst hd;exact⟨_,jj,λg=>ag9 i h (by simp)⟩
  ·simp only[ae]at hd;subst hd;exact⟨_,jj,λg=>by simp[execOp,i,h,binOp,Op.stringOp,eqGuard,ku]⟩
  ·simp only[ae]at hd;subst hd;exact⟨_,jj,λg=>by simp[execOp,i,h,binOp,Op.stringOp,eqGuard,ku,oX]⟩
  ·simp only[ae]at hd;subst hd;exact⟨_,jj,λg=>by simp[execOp,i,h,binOp,Op.stringOp,eqGuard,ku,oX]⟩
  ·simp only[ae]at hd;subst hd;exact⟨_,jj,λg=>by simp[execOp,i,h,binOp,Op.stringOp,eqGuard,ku]⟩
  ·cases hd
 ·cases j
theorem akA(n:Inv γ h0 io w0 s f w){op:BinOp}{T q:TypeId}{x j:Operand}{y i:KX}{c:C}(p:uV P N (.binOp op T x j q) (.Wi op y i)=I)(e:jf s (.Wi op y i)=Z c) :
  ∃v,CR γ w c v/\∀g,(execOp (fr f N).eval ⟨dst,.binOp op T x j q,ty,pos,aft,gd⟩).run P g=.ok (.value v) g:=by
 simp only[uV,ai]at p;obtain⟨⟨⟨_,t⟩,B⟩,h⟩:=p;have m:=cA n t;have r:=cA n B;unfold isBool at h
 split at h
 ·rename_i o;simp only[jf]at e
  split at e
  ·rename_i a b D A;rw[D]at m;rw[A]at r;have l:=rQ m;have k:=rQ r;simp only[ak]at e;obtain⟨d,hd,rfl⟩:=e;unfold W7 at hd
   split at hd
   ·simp only[ae]at hd;subst hd;exact⟨_,jj,λg=>ag5 o l k rfl⟩
   ·simp only[ae]at hd;subst hd;exact⟨_,jj,λg=>ag6 o l k (by simp)⟩
   ·cases hd
  ·cases e
 ·cases h
theorem Ir{w:World}:∀(es:M (M D)) {d:M Value} {G:Fp} {b:M Int},fw w es d G->bytesOf es=Z b->d=b.map (Value.int .u8)/\b.length=es.length
 |[],d,G,b,h,a=>by
  simp only[fw]at h;simp only[bytesOf,ae]at a;subst a;simp[h.1]
 |e::es,d,G,b,h,a=>by
  simp only[fw]at h;obtain⟨v1,v2,x,t,rfl,rfl,g,l⟩:=h;unfold bytesOf at a
  split at a
  ·rename_i m;cases m
  ·rename_i n p c;simp only[cl]at c;obtain⟨rfl,rfl⟩:=c;simp only[ak]at a;obtain⟨o,k,rfl⟩:=a;obtain⟨j,i⟩:=Ir es l k;simp only[fp,Rp]at g;obtain⟨v,q,r,G2,rfl,_,⟨rfl,_⟩,rfl,_⟩:=g;simp[j,i]
  ·cases a
theorem akC(L:Inv γ h0 io w0 s f w){T q:TypeId}{x:Operand}{y:KX}{c:C}(R:uV P N (.convert T q x) (.P0 y)=I)(j:jf s (.P0 y)=Z c) :
  ∃v,CR γ w c v/\∀k,rL γ s w k->(execOp (fr f N).eval ⟨dst,.convert T q x,ty,pos,aft,gd⟩).run P k=.ok (.value v) k:=by
 simp only[uV,ai]at R;obtain⟨⟨hx,b⟩,d⟩:=R;have p:=cA L hx;simp only[jf]at j
 split at j
 ·rename_i r hb;rw[hb]at p;simp only[CR]at p
  split at j
  ·rename_i row K
   split at j
   ·rename_i hc;simp only[ak]at j;obtain⟨m,e,rfl⟩:=j;obtain⟨F,hR,_,X⟩:=L.rw r row K;obtain⟨A,n,Q,q1,q2,q3,q4,q5,q6,q7,Y⟩:=hR;rcases Y with ⟨a1,SY,_⟩|⟨g,o,V,G,a1,a2,a3,a4,a5,a6,a7,a8,a9,W⟩
    ·have U:row.es=[]:=cH.1 (by omega);rw[U]at e;simp only[bytesOf,ae]at e;subst e;subst a1;refine⟨.string ByteArray.empty,Cv (jt _),λk H=>?_⟩;unfold isStr at b
     split at b
     ·rename_i l;unfold aeZ at d
      split at d
      ·rename_i a B
       split at d
       ·rename_i D;have h:=run_convert_bytes_nil (P:=P) k T a B D n Q q l;have t:=p.1.trans q1;simp only[execOp,t,h,Sem.run_bind,Result.andThen_ok];rfl
       ·cases d
      ·cases d
     ·cases b
    ·have hg:g∈F:=by
      cases hd:row.deep with
      |true=>rw[(a9 hd).1];simp
      |false=>rw[(W hd).1];simp
     obtain⟨k1,k2⟩:=Ir _ a4 e;subst a1;refine⟨_,Cv ?_,λk H=>?_⟩
     ·show (strOfNums m).size<=maxLen;rw[strOfNums_size];omega
     ·have pr:iA k g o V:=a5.dF (H.rw r row K g (X g hg));unfold isStr at b
      split at b
      ·rename_i l;unfold aeZ at d
       split at d
       ·rename_i a B
        split at d
        ·rename_i D;have h:=run_convert_bytes_arg (P:=P) k T a B D g o n Q m (by omega) (λi rE=>by
          have S:i < m.length:=by omega
          have:=pr i (.int .u8 m[i]) (by rw[k1];simp[S]);rw[this];simp[S]) q l
         have t:=p.1.trans q1;simp only[execOp,t,h,Sem.run_bind,Result.andThen_ok];rfl
        ·cases d
       ·cases d
      ·cases b
   ·cases j
  ·cases j
 ·cases j
theorem akG(Y:Inv γ h0 io w0 s f w){T:TypeId}{x ix:Operand}{y j:KX}{c:C}(cU:uV P N (.slice T x O (Z ix) O) (.slc y j)=I)(l:jf s (.slc y j)=Z c) :
  ∃v,CR γ w c v/\∀q,(execOp (fr f N).eval ⟨dst,.slice T x O (Z ix) O,ty,pos,aft,gd⟩).run P q=.ok (.value v) q:=by
 simp only[uV,ai]at cU;obtain⟨⟨⟨hx,hj⟩,_⟩,m⟩:=cU;have B:=cA Y hx;have DW:=cA Y hj;obtain⟨d,m⟩:=cD.1 m;unfold L3 at m
 split at m
 ·rename_i i p;simp only[jf]at l
  split at l
  ·rename_i k fl es a hb hn;rw[hb]at B;rw[hn]at DW;obtain⟨vD,_⟩:=iH DW
   split at l
   ·rename_i hc;simp only[ae]at l;subst l;simp only[CR,Rp]at B;obtain⟨F,⟨A,n,K,q1,q2,q3,S,R,Q,t,L⟩,W⟩:=B;have H:(es.take a.toNat).length=a.toNat:=by rw[aY];omega
    refine⟨.slice A a.toNat K,?_,λq=>R2 p (λw=>run_sizeOf m w) q1 vD (by omega) (by omega)⟩;by_cases h0:a.toNat=0
    ·simp only[CR,Rp];exact⟨[],⟨A,a.toNat,K,rfl,H.symm,by omega,S,λD e l=>R D e (cr l),Q,λe l=>t e (cr l),.inl ⟨h0,rfl⟩⟩,λ_ h=>by simp at h⟩
    ·rcases L with L|⟨hp,b,o,xs,G,p1,V,U,p4⟩
     ·omega
     ·rw[<- bI a.toNat es]at U;obtain⟨v1,v2,F1,F2,rfl,rfl,X,k2⟩:=fw.fX _ U;have As:=fw.length _ X (λe l=>t e (cr l));rw[H]at As;simp only[CR,Rp];refine⟨(b,o+a.toNat * k)::F1,⟨A,a.toNat,K,rfl,H.symm,by omega,S,λD e l=>R D e (cr l),Q,λe l=>t e (cr l),.inr ⟨by omega,b,o,v1,F1,p1,rfl,X,?_⟩⟩,?_⟩
      ·intro j g p;exact p4 j g (by rw[dr (bq.1 p).1];exact p)
      ·intro be r;rcases aL.1 r with rfl|r
       ·have:=W (b,o+n * k) (by rw[V];simp);refine aG ?_ this;have:a.toNat * k<=n * k:=fJ k (by omega);show o+a.toNat * k<=o+n * k;omega
       ·exact W be (by rw[V];simp[r])
   ·cases l
  ·cases l
 ·cases m
theorem akH(j:Inv γ h0 io w0 s f w){T:TypeId}{x:Operand}{m k:u Operand}{y:KX}{a b:u KX}{c:C}(p:uV P N (.slice T x m k O) (.VZ y a b)=I)(e:jf s (.VZ y a b)=Z c) :
  ∃v,CR γ w c v/\∀g,(execOp (fr f N).eval ⟨dst,.slice T x m k O,ty,pos,aft,gd⟩).run P g=.ok (.value v) g:=by
 simp only[uV,ai]at p;obtain⟨⟨⟨A,D⟩,F⟩,h⟩:=p;have n:=cA j A;unfold isStr at h
 split at h
 ·rename_i B;simp only[jf]at e
  split at e
  ·rename_i t G;rw[G]at n;obtain⟨q,H⟩:=EC n
   split at e
   ·rename_i l d r i
    split at e
    ·rename_i o;simp only[ae]at e;subst e;refine⟨_,Cv ?_,λg=>aaQ B q (pe j D r) (pe j F i) o.1 o.2⟩;rw[ByteArray.size_extract];omega
    ·cases e
   ·cases e
  ·cases e
 ·cases h
theorem akF(Q:Inv γ h0 io w0 s f w){T:TypeId}{x:Operand}{lo B:u Operand}{y:KX}{a b:u KX}{k:Nat}{c:C}(cU:uV P N (.slice T x lo B O) (.AZ k y a b)=I)(i:jf s (.AZ k y a b)=Z c) :
  ∃v,CR γ w c v/\∀t,(execOp (fr f N).eval ⟨dst,.slice T x lo B O,ty,pos,aft,gd⟩).run P t=.ok (.value v) t:=by
 simp only[uV,ai]at cU;obtain⟨⟨⟨hx,Px⟩,R⟩,q⟩:=cU;have L:=cA Q hx;have q:=eq_of_beq q;unfold L3 at q
 split at q
 ·rename_i g hu;simp only[jf]at i
  split at i
  ·rename_i m fl es hb;rw[hb]at L
   split at i
   ·rename_i l d pr K
    split at i
    ·rename_i hc;obtain⟨rfl,c1,c2⟩:=hc;simp only[ae]at i;subst i;simp only[CR,Rp]at L;obtain⟨F,⟨A,n,V,q1,q2,q3,q4,q5,q6,H,Y⟩,lg⟩:=L;have p:((es.take d).drop l).length=d - l:=by simp;omega
     have r:∀e∈(es.take d).drop l,e∈es:=λe i=>cr (fc i);have U:PK (fr f N).eval B n d:=by rw[q2];exact pe Q R K
     have mH:=λt=>Ht (w:=t) (dst:=dst) (ty:=ty) (pos:=pos) (aft:=aft) (gd:=gd) hu (λw=>run_sizeOf q w) q1 (pe Q Px pr) U c1 (by omega);refine⟨_,?_,mH⟩;by_cases h0:d - l=0
     ·simp only[CR,Rp];exact⟨[],⟨_,d - l,V - l,rfl,p.symm,by omega,by omega,λS e i=>q5 S e (r e i),q6,λe i=>H e (r e i),.inl ⟨h0,rfl⟩⟩,λ_ h=>by simp at h⟩
     ·rcases Y with Y|⟨hp,b,o,xs,G,p1,p2,p3,p4⟩
      ·omega
      ·have pS:¬V=l:=by omega
       rw[<- bI d es]at p3;obtain⟨v1,v2,F1,F2,rfl,rfl,m0,_⟩:=fw.fX _ p3;rw[<- bI l (es.take d)]at m0;obtain⟨X,W,G1,G2,rfl,rfl,m1,m2⟩:=fw.fX _ m0;have As:=fw.length _ m1 (λe i=>H e (cr (cr i)));have NT:((es.take d).take l).length=l:=by simp;omega
       rw[NT]at As;rw[if_neg pS,p1];simp only[CR,Rp];refine⟨(b,o+l * m+(d - l) * m)::G2,⟨Z ⟨b,o+l * m,O⟩,d - l,V - l,by simp[Addr.add],p.symm,by omega,by omega,λS e i=>q5 S e (r e i),q6,λe i=>H e (r e i),.inr ⟨by omega,b,o+l * m,W,G2,rfl,rfl,m2,?_⟩⟩,?_⟩
       ·intro j v hj;have e1:((X++W)++v2)[X.length+j]?=Z v:=by
         rw[bB,cY (by omega),vF,dr (bq.1 hj).1];exact hj
        have e2:=p4 _ _ e1;rw[As,<- cQ]at e2;exact e2
       ·intro be D;rcases aL.1 D with rfl|D
        ·have h9:=lg (b,o+n * m) (by rw[p2];simp);refine aG ?_ h9;have h8:l * m+(d - l) * m=d * m:=by rw[<- lu];congr 1;omega
         have h7:d * m<=n * m:=fJ m (by omega);show o+l * m+(d - l) * m<=o+n * m;omega
        ·exact lg be (by rw[p2];simp[D])
    ·cases i
   ·cases i
  ·cases i
 ·cases q
theorem oI(G:Inv γ h0 io w0 s f w){op:Op}{qy:KO}{c:C}(B:uV P N op qy=I)(h:jf s qy=Z c) :
  ∃v,CR γ w c v/\∀l,(qy.QO=I->rL γ s w l)->(execOp (fr f N).eval ⟨dst,op,ty,pos,aft,gd⟩).run P l=.ok (.value v) l:=by
 have L:=B;unfold uV at B
 split at B
 ·simp only[jf,ae]at h;subst h;exact⟨_,cA G B,λl _=>gY rfl⟩
 ·simp only[jf,ae]at h;subst h;exact⟨_,cA G B,λl _=>jI rfl⟩
 ·simp only[ai]at B;obtain⟨⟨D,q⟩,S⟩:=B;simp only[jf]at h
  split at h
  ·rename_i b H;have j:=cA G D;rw[H]at j;have K:=rQ j;simp only[ae]at h;subst h;cases b
   ·exact⟨_,cA G S,λl _=>Pm K rfl⟩
   ·exact⟨_,cA G q,λl _=>Pn K rfl⟩
  ·cases h
 ·obtain⟨v,D,q⟩:=acw (dst:=dst) (ty:=ty) (pos:=pos) (aft:=aft) (gd:=gd) G L h;exact⟨v,D,λl _=>q l⟩
 ·obtain⟨v,D,q⟩:=afw (dst:=dst) (ty:=ty) (pos:=pos) (aft:=aft) (gd:=gd) G L h;exact⟨v,D,λl hs=>q l (hs rfl)⟩
 ·obtain⟨v,D,q⟩:=anB (dst:=dst) (ty:=ty) (pos:=pos) (aft:=aft) (gd:=gd) G L h;exact⟨v,D,λl _=>q l⟩
 ·obtain⟨v,D,q⟩:=anC (dst:=dst) (ty:=ty) (pos:=pos) (aft:=aft) (gd:=gd) G L h;exact⟨v,D,λl _=>q l⟩
 ·obtain⟨v,D,q⟩:=akI (dst:=dst) (ty:=ty) (pos:=pos) (aft:=aft) (gd:=gd) G L h;exact⟨v,D,λl _=>q l⟩
 ·obtain⟨v,D,q⟩:=akD (dst:=dst) (ty:=ty) (pos:=pos) (aft:=aft) (gd:=gd) G L h;exact⟨v,D,λl _=>q l⟩
 ·obtain⟨v,D,q⟩:=akE (dst:=dst) (ty:=ty) (pos:=pos) (aft:=aft) (gd:=gd) G L h;exact⟨v,D,λl _=>q l⟩
 ·simp only[ai]at B;have e:=of_decide_eq_true B.1.1;subst e;obtain⟨v,D,q⟩:=akB (dst:=dst) (ty:=ty) (pos:=pos) (aft:=aft) (gd:=gd) G L h;exact⟨v,D,λl _=>q l⟩
 ·simp only[ai]at B;have e:=of_decide_eq_true B.1.1.1;subst e;obtain⟨v,D,q⟩:=akA (dst:=dst) (ty:=ty) (pos:=pos) (aft:=aft) (gd:=gd) G L h;exact⟨v,D,λl _=>q l⟩
 ·simp only[jf]at h
  split at h
  ·rename_i b H;have j:=cA G B;rw[H]at j;have K:=rQ j;simp only[ae]at h;subst h;exact⟨_,jj,λl _=>ad_ K⟩
  ·cases h
 ·simp only[jf]at h
  split at h
  ·rename_i k a H;have j:=cA G B;rw[H]at j;obtain⟨K,_⟩:=iH j;simp only[ae]at h;subst h;exact⟨_,iM (wrap_wrap _ _),λl _=>by simp[execOp,K,Op.unary,Op.intArith]⟩
  ·cases h
 ·simp only[ai,beq_iff_eq]at B;obtain⟨⟨D,q⟩,S⟩:=B;simp only[jf]at h
  split at h
  ·rename_i k a H;have j:=cA G D;rw[H]at j;obtain⟨K,_⟩:=iH j;simp only[ae]at h;subst h;refine⟨_,iM (wrap_wrap _ _),λl _=>?_⟩;unfold abG at q S
   split at S
   ·rename_i k' iJ;simp only[ae]at S;subst S
    split at q
    ·rename_i k2 hk2;simp[execOp,convert,K,run_underlying iJ,run_underlying hk2,Conv.intToInt]
    ·cases q
   ·cases S
  ·cases h
 ·rename_i V y
  split at B
  ·rename_i x T R Q Y;simp only[ai]at B;obtain⟨D,q⟩:=B;obtain⟨Xg,args,X⟩:=V;simp only at R Q Y
   subst R;have U:args=#[x]:=by rw[<- Q]
   have et:X=#[T]:=by rw[<- Y]
   subst U et;have j:=cA G D;unfold N3 at q
   split at q
   ·rename_i d W;have wr:∀n:Nat,n<=maxLen->IntKind.i64.wrap (n:Int)=n:=λn hn=>bH (by simp[maxLen]at hn;omega);simp only[jf]at h
    split at h
    ·rename_i k fl es H;rw[H]at j;simp only[CR,Rp]at j;obtain⟨F,⟨A,m,cc,q1,q2,q3,q4,_⟩,lg⟩:=j;simp only[ae]at h;subst h;subst q2;exact⟨_,iM (wr _ (by omega)),λl _=>JF W q1⟩
    ·rename_i k fl H;rw[H]at j;simp only[CR]at j;simp only[ae]at h;subst h;exact⟨_,iM (wr 0 (by omega)),λl _=>JF W j.1⟩
    ·rename_i r H;rw[H]at j;simp only[CR]at j
     split at h
     ·rename_i row hl;simp only[ae]at h;subst h;obtain⟨F,hR,_,ud⟩:=G.rw r row hl;obtain⟨A,n',c',q1,q2,q3,q4,_⟩:=hR;subst q2;exact⟨_,iM (wr _ (by omega)),λl _=>JF W (j.1.trans q1)⟩
     ·cases h
    ·cases h
   ·cases q
  ·cases B
 ·rename_i V y
  split at B
  ·rename_i x T R Q Y;simp only[ai]at B;obtain⟨D,q⟩:=B;obtain⟨Xg,args,X⟩:=V;simp only at R Q Y
   subst R;have U:args=#[x]:=by rw[<- Q]
   have et:X=#[T]:=by rw[<- Y]
   subst U et;have j:=cA G D;unfold isStr at q
   split at q
   ·rename_i W;simp only[jf]at h
    split at h
    ·rename_i t H;rw[H]at j;obtain⟨K,hl⟩:=EC j;simp only[ae]at h;subst h;exact⟨_,iM (bH (by simp[maxLen]at hl;omega)),λl _=>ag8 W K⟩
    ·cases h
   ·cases q
  ·cases B
 ·rename_i V y y'
  split at B
  ·rename_i x x' R Q;simp only[ai]at B;obtain⟨Xg,args,X⟩:=V;simp only at R Q
   subst R;have U:args=#[x,x']:=by rw[<- Q]
   subst U;have j:=cA G B.1;have DV:=cA G B.2;simp only[jf]at h
   split at h
   ·rename_i a b H lI;rw[H]at j;rw[lI]at DV;obtain⟨K,hw⟩:=iH j;obtain⟨Wv,hw'⟩:=iH DV;simp only[ae]at h;subst h;exact⟨_,iM (by split<;>assumption),λl _=>by simp[execOp,resolve,invoke,builtin,Builtin.min_,Builtin.min2,K,Wv]⟩
   ·cases h
  ·cases B
 ·rename_i V y y'
  split at B
  ·rename_i x x' R Q;simp only[ai]at B;obtain⟨Xg,args,X⟩:=V;simp only at R Q
   subst R;have U:args=#[x,x']:=by rw[<- Q]
   subst U;have j:=cA G B.1;have DV:=cA G B.2;simp only[jf]at h
   split at h
   ·rename_i a b H lI;rw[H]at j;rw[lI]at DV;obtain⟨K,hw⟩:=iH j;obtain⟨Wv,hw'⟩:=iH DV;simp only[ae]at h;subst h;exact⟨_,iM (by split<;>assumption),λl _=>by simp[execOp,resolve,invoke,builtin,Builtin.max_,Builtin.max2,K,Wv]⟩
   ·cases h
  ·cases B
 ·simp only[ai,beq_iff_eq]at B;obtain⟨D,rfl⟩:=B;have j:=cA G D;simp only[jf]at h
  split at h
  ·rename_i cs H;rw[H]at j;simp only[CR]at j;obtain⟨vs,q,S⟩:=j;rw[ef]at h;obtain⟨v,K,hc⟩:=S.at_ h;exact⟨v,hc,λl _=>Wd q (by simpa using K)⟩
  ·cases h
 ·obtain⟨v,D,q⟩:=akG (dst:=dst) (ty:=ty) (pos:=pos) (aft:=aft) (gd:=gd) G L h;exact⟨v,D,λl _=>q l⟩
 ·obtain⟨v,D,q⟩:=akH (dst:=dst) (ty:=ty) (pos:=pos) (aft:=aft) (gd:=gd) G L h;exact⟨v,D,λl _=>q l⟩
 ·obtain⟨v,D,q⟩:=akF (dst:=dst) (ty:=ty) (pos:=pos) (aft:=aft) (gd:=gd) G L h;exact⟨v,D,λl _=>q l⟩
 ·have j:=cA G B;simp only[jf]at h
  split at h
  ·rename_i b o H;simp only[ae]at h;subst h;rw[H]at j;refine⟨_,j,λl _=>?_⟩;simp only[CR]at j;simp[execOp,j]
  ·rename_i cs H;simp only[ae]at h;subst h;rw[H]at j;refine⟨_,j,λl _=>?_⟩;simp only[CR]at j;obtain⟨b,o,vs,F,j,_⟩:=j;simp[execOp,j]
  ·rename_i r k i o H;simp only[ae]at h;subst h;rw[H]at j;refine⟨_,j,λl _=>?_⟩;simp only[CR]at j;obtain⟨g,p,n,c,_,j⟩:=j;simp[execOp,j]
  ·cases h
 ·obtain⟨v,D,q⟩:=akC (dst:=dst) (ty:=ty) (pos:=pos) (aft:=aft) (gd:=gd) G L h;exact⟨v,D,λl hs=>q l (hs rfl)⟩
 ·cases B
end
end
section
open Go.RowKit
inductive FOk:Option Nat->Fm->Fm->Prop where
 |skip {f:Fm}:FOk none f f
 |put {d:Nat} {f:Fm} {v:Value}:FOk (some d) f (Dj f d v)
structure Tr (d:Option Nat) (X:List Nat) (γ:Gh) (w:World) (γ':Gh) (w':World) (f f':Fm):Prop where
 Sa:vG γ (λo=>∃i∈X,o=.box i\/o=.row i) w w'
 β:∀b,d≠some b->γ'.β b=γ.β b
 h:∀g,γ.h g<=γ'.h g
 fr:FOk d f f'
theorem vG.refl(b:Gh)(a:Own->Prop)(w:World):vG b a w w:=⟨rfl,rfl,rfl,aD _,λ_ _ _=>rfl,λ_ _ _=>rfl,λ_ h=>h⟩
section
variable {γ:Gh} {h0:Nat->Nat} {io:M Nat} {w0:World} {s:St} {f:Fm} {w:World}
theorem kC(h:Inv γ h0 io w0 s f w){e:World}(b:CJ w.heap.size w e)(a:Own->Prop):vG γ a w e where
 os:=b.os
 tape:=b.tape
 output:=b.output
 size:=b.size
 block g c _:=b.block g c
 cell g j i:=by
  rcases dD g w.heap.size with d|d
  ·exact World.cell?_of_block (w:=w) (b.block g d)
  ·have:=h.fQ g d;omega
 fR g c:=⟨bR c.1 b.size,λj=>by rw[World.frozen?_of_block (w:=w) (b.block g c.1)];exact c.2 j⟩
theorem Inv.Bi(b:Inv γ h0 io w0 s f w){a:World}(c:CJ w.heap.size w a):Inv γ h0 io w0 s f a:=
 b.Sa (kC b c (λ_=>False)) (λh=>h) (λ_ h=>h.elim) (λ_ h=>h.elim)
theorem Inv.tf(a:Inv γ h0 io w0 s f w){g:Nat}(b:w.heap.size<=g):γ.ω g=.free:=by
 rcases jK (γ.ω g=.free) with h|h
 ·exact h
 ·have:=(a.own g h).1;omega
theorem Inv.PT(a:Inv γ h0 io w0 s f w){b g:Nat}{T:TypeId}{q:M Value}{D:M C}(hB:kJ w g T q)(G:γ.ω g=.free\/γ.ω g=.dM)(L:w0.heap.size<=g\/g∈io)(K:γ.h g=0)(N:fq γ w D q) :
  ∃i,Inv i h0 io w0 (s.lY b (C.kR b D)) f w/\i.β b=g/\(∀x,x≠b->i.β x=γ.β x)/\i.h=γ.h/\i.sl=γ.sl/\∀y,y≠g->i.ω y=γ.ω y:=by
 refine⟨{γ with β:=λx=>if x=b then g else γ.β x,ω:=λx=>if x=g then .box b else γ.ω x },?_,by simp,λx H=>by simp[H],rfl,rfl,λy j=>by simp[j]⟩;have mv:∀(c:C) {v:Value},CR γ w c v->CR {γ with β:=λx=>if x=b then g else γ.β x,ω:=λx=>if x=g then .box b else γ.ω x } w (C.kill b c) v:=λc v h=>
  by refine CR.move (γ:=γ) b ?_ ?_ ?_ ?_ c h<;>intros<;>first|exact aD _|rfl|simp_all
 have l:∀(c:M C) {v:M Value},fq γ w c v->fq {γ with β:=λx=>if x=b then g else γ.β x,ω:=λx=>if x=g then .box b else γ.ω x } w (C.kR b c) v:=λc v h=>
  by refine fq.move (γ:=γ) b ?_ ?_ ?_ ?_ c h<;>intros<;>first|exact aD _|rfl|simp_all
 exact {
  sl:=λd c k=>by
   simp[St.lY,St.fY,St.kill,yV]at k;obtain⟨o,n,rfl⟩:=k;exact mv o (a.sl d o n)
  bx:=λd c k=>by
   simp[St.lY,St.fY,St.kill,look,eK,yU]at k;by_cases hd:b=d
   ·subst hd;simp[if_true,ae]at k;subst k;exact⟨T,q,by simpa using hB,l D N,by simp⟩
   ·simp[if_neg hd]at k;obtain⟨o,n,rfl⟩:=k;obtain⟨Q,P,A,p,t⟩:=a.bx d o n;have B:γ.β d≠g:=λe=>by rcases G with h|h<;>rw[e,h]at t<;>cases t
    exact⟨Q,P,by simpa [m_ hd] using A,l o p,by simp[m_ hd,B,t]⟩
  rw:=λr x k=>by
   obtain⟨F,n,A,p⟩:=a.rw r x k;refine⟨F,n,A,λy j=>?_⟩;have B:y≠g:=λe=>by have:=p y j;rcases G with h|h<;>rw[e,h]at this<;>cases this
   simp[B,p y j]
  own:=λy j=>by
   by_cases m:y=g
   ·subst m;exact⟨hB.lt,L⟩
   ·simp[if_neg m]at j;exact a.own y j
  oq:=λy x j=>by
   by_cases m:y=g
   ·subst m;exact K
   ·simp[if_neg m]at j;exact a.oq y x j
  fQ:=a.fQ,os:=a.os,tape:=a.tape,output:=a.output,size:=a.size,frame:=a.frame,cell:=a.cell,mono:=a.mono,hold:=a.hold,fR:=a.fR }
theorem Inv.vL(a:Inv γ h0 io w0 s f w){r:Nat}{x:Row}{v:Value}{F:M Nat}(H:pY γ.h w x v F)(D:F.Nodup)(K:∀g∈F,(γ.ω g=.free\/γ.ω g=.dM\/γ.ω g=.row r)/\g < w.heap.size/\(w0.heap.size<=g\/g∈io)) :
  ∃b,Inv b h0 io w0 (s.newRow r x) f w/\b.sl r=v/\b.β=γ.β/\b.h=γ.h/\(∀g,g∉F->b.ω g=γ.ω g)/\∀q,q≠r->b.sl q=γ.sl q:=by
 refine⟨{γ with sl:=λq=>if q=r then v else γ.sl q,ω:=λy=>if y∈F then .row r else γ.ω y },?_,by simp,rfl,rfl,λg l=>by simp[l],λq G=>by simp[G]⟩;have mv:∀(c:C) {j:Value},CR γ w c j->CR {γ with sl:=λq=>if q=r then v else γ.sl q,ω:=λy=>if y∈F then .row r else γ.ω y } w (C.kill r c) j:=λc j h=>
  by refine CR.move (γ:=γ) r ?_ ?_ ?_ ?_ c h<;>intros<;>first|exact aD _|rfl|simp_all
 have p:∀(c:M C) {j:M Value},fq γ w c j->fq {γ with sl:=λq=>if q=r then v else γ.sl q,ω:=λy=>if y∈F then .row r else γ.ω y } w (C.kR r c) j:=λc j h=>
  by refine fq.move (γ:=γ) r ?_ ?_ ?_ ?_ c h<;>intros<;>first|exact aD _|rfl|simp_all
 exact {
  sl:=λd c i=>by
   simp[St.newRow,St.setRow,St.kill,yV]at i;obtain⟨n,m,rfl⟩:=i;exact mv n (a.sl d n m)
  bx:=λd c i=>by
   simp[St.newRow,St.setRow,St.kill,yU]at i;obtain⟨n,m,rfl⟩:=i;obtain⟨P,N,A,t,L⟩:=a.bx d n m;refine⟨P,N,A,p n t,?_⟩;have B:γ.β d∉F:=λe=>by
    grind
   simp[B,L]
  rw:=λq y i=>by
   simp[St.newRow,St.setRow,St.kill,look,eK]at i;by_cases hd:r=q
   ·subst hd;simp[if_true,ae]at i;subst i;exact⟨F,by simpa using H,D,λg l=>by simp[l]⟩
   ·simp[if_neg hd]at i;obtain⟨Q,m,A,t⟩:=a.rw q y i;refine⟨Q,by simpa [m_ hd] using m,A,λg l=>?_⟩;have B:g∉F:=λe=>by
     grind
    simp[B,t g l]
  own:=λy k=>by
   by_cases o:y∈F
   ·exact (K y o).2
   ·simp[if_neg o]at k;exact a.own y k
  oq:=λy x k=>by
   by_cases o:y∈F
   ·simp_all
   ·simp[if_neg o]at k;exact a.oq y x k
  fQ:=a.fQ,os:=a.os,tape:=a.tape,output:=a.output,size:=a.size,frame:=a.frame,cell:=a.cell,mono:=a.mono,hold:=a.hold,fR:=a.fR }
theorem Inv.setRow(a:Inv γ h0 io w0 s f w){r:Nat}{x:Row}{F:M Nat}(A:pY γ.h w x (γ.sl r) F)(v:F.Nodup)(B:∀g∈F,(γ.ω g=.free\/γ.ω g=.dM\/γ.ω g=.row r)/\g < w.heap.size/\(w0.heap.size<=g\/g∈io)) :
  ∃b,Inv b h0 io w0 (s.setRow r x) f w/\b.sl=γ.sl/\b.β=γ.β/\b.h=γ.h/\∀g,b.ω g=γ.ω g\/b.ω g=.row r:=by
 refine⟨{γ with ω:=λy=>if y∈F then .row r else γ.ω y },?_,rfl,rfl,rfl,λg=>by dsimp only;split<;>simp⟩;have mv:∀(c:C) {j:Value},CR γ w c j->CR {γ with ω:=λy=>if y∈F then .row r else γ.ω y } w c j:=λc j h=>
  by refine CR.mono (γ:=γ) ?_ ?_ ?_ ?_ c h<;>intros<;>first|exact aD _|rfl
 have m:∀(c:M C) {j:M Value},fq γ w c j->fq {γ with ω:=λy=>if y∈F then .row r else γ.ω y } w c j:=λc j h=>
  by refine fq.mono (γ:=γ) ?_ ?_ ?_ ?_ c h<;>intros<;>first|exact aD _|rfl
 exact {
  sl:=λd c i=>mv c (a.sl d c i)
  bx:=λd c i=>by
   obtain⟨K,H,p,o,D⟩:=a.bx d c i;refine⟨K,H,p,m c o,?_⟩;have t:γ.β d∉F:=λe=>by
    grind
   simp[t,D]
  rw:=λq y i=>by
   simp[St.setRow,look,eK]at i;by_cases hd:r=q
   ·subst hd;simp[if_true,ae]at i;subst i;exact⟨F,A,v,λg n=>by simp[n]⟩
   ·simp[if_neg hd]at i;obtain⟨L,G,p,o⟩:=a.rw q y i;refine⟨L,G,p,λg n=>?_⟩;have t:g∉F:=λe=>by
     grind
    simp[t,o g n]
  own:=λy k=>by
   by_cases l:y∈F
   ·exact (B y l).2
   ·simp[if_neg l]at k;exact a.own y k
  oq:=λy x k=>by
   by_cases l:y∈F
   ·simp_all
   ·simp[if_neg l]at k;exact a.oq y x k
  fQ:=a.fQ,os:=a.os,tape:=a.tape,output:=a.output,size:=a.size,frame:=a.frame,cell:=a.cell,mono:=a.mono,hold:=a.hold,fR:=a.fR }
theorem Inv.fY(g:Inv γ h0 io w0 s f w){b:Nat}{T:TypeId}{e:M Value}{h:M C}(hB:kJ w (γ.β b) T e)(i:γ.ω (γ.β b)=.box b)(j:fq γ w h e):Inv γ h0 io w0 (s.fY b h) f w:=
 {g with
  bx:=λd c a=>by
   simp[St.fY,look,eK]at a;by_cases hd:b=d
   ·subst hd;simp[if_true,ae]at a;subst a;exact⟨T,e,hB,j,i⟩
   ·simp[if_neg hd]at a;exact g.bx d c a }
theorem Inv.dd(a:Inv γ h0 io w0 s f w)(r:Nat):Inv γ h0 io w0 (s.dd r) f w:=
 a.sub (λ_ _ h=>h) (λ_ _ h=>h) (λd c h=>by
  simp[St.dd,eK]at h
  simp_all)
theorem Inv.take(D:Inv γ h0 io w0 s f w){r:Nat}{x:Row}(hl:look s.rw r=Z x) :
  ∃m G,Inv m h0 io w0 (s.dd r) f w/\m.β=γ.β/\m.sl=γ.sl/\(∀g,γ.h g<=m.h g)/\Rp w (.list x.k x.fl x.es) (γ.sl r) G/\
   ((x.deep && !x.fz)=J->eI m.h G)/\((x.deep && !x.fz)=I->(G.map cz).Nodup/\∀p∈G,m.ω p.1=.dM/\m.h p.1=0/\oZ w p.1)/\
   (∀p∈G,γ.ω p.1=.row r\/x.deep=J)/\(∀g,γ.ω g≠.row r->m.ω g=γ.ω g/\m.h g=γ.h g)/\∀g,m.ω g=γ.ω g\/m.ω g=.dM\/m.ω g=.free:=by
 obtain⟨F,hR,kl,C⟩:=D.rw r x hl;obtain⟨A,n,c,q1,q2,S,R,Q,P,N,q8⟩:=hR;have t:=D.dd r;have X:∀g,γ.ω g=.row r->(∀b cs,look (s.dd r).bx b=Z cs->γ.ω g≠.box b)/\∀q y,look (s.dd r).rw q=Z y->γ.ω g≠.row q:=by
  intro g K;refine⟨λb cs _=>by rw[K];simp,λq y V=>?_⟩;rw[K];simp only[St.dd,eK]at V
  split at V
  ·cases V
  ·rename_i gW;intro e;cases e;exact gW rfl
 rcases q8 with ⟨rfl,rfl,rfl⟩|⟨g,o,xs,G,rfl,a2,a3,a4,a5,a6,a7,a8,a9,vh⟩
 ·refine⟨γ,[],t,rfl,rfl,λ_=>aD _,?_,λ_ _ h=>by simp at h,λ_=>by simp,λ_ h=>by simp at h,λ_ _=>⟨rfl,rfl⟩,λ_=>.inl rfl⟩;simp only[Rp];exact⟨O,n,0,q1,q2,S,R,N,Q,P,.inl ⟨by omega,trivial⟩⟩
 ·by_cases hn:n=0
  ·refine⟨γ,[],t,rfl,rfl,λ_=>aD _,?_,λ_ _ h=>by simp at h,λ_=>by simp,λ_ h=>by simp at h,λ_ _=>⟨rfl,rfl⟩,λ_=>.inl rfl⟩;simp only[Rp];exact⟨_,n,c,q1,q2,S,R,N,Q,P,.inl ⟨hn,trivial⟩⟩
  ·have Y:Rp w (.list x.k x.fl x.es) (γ.sl r) ((g,o+n * x.k)::G):=by
    simp only[Rp];exact⟨_,n,c,q1,q2,S,R,N,Q,P,.inr ⟨by omega,g,o,xs,G,rfl,rfl,a4,a5⟩⟩
   have L:γ.ω g=.row r:=by
    cases hd:x.deep with
    |true=>exact C g (by rw[(a9 hd).1];simp)
    |false=>exact C g (by rw[(vh hd).1];simp)
   by_cases v:(x.deep && !x.fz)=I
   ·simp only[ai,cq]at v;obtain⟨W,hz⟩:=a9 v.1;have U:=t.settle (h':=γ.h) (ω':=λy=>if γ.ω y=.row r then .dM else γ.ω y) (λ_=>aD _) (λg K=>absurd rfl K)
     (λy=>by
      by_cases i:γ.ω y=.row r
      ·exact .inr ⟨.inr (by simp[i]),by rw[i];simp,X y i⟩
      ·exact .inl (by simp[i]))
     (λy b i=>by
      by_cases B:γ.ω y=.row r
      ·simp[B]at i
      ·simp only[if_neg B]at i;exact D.oq y b i)
    refine⟨_,(g,o+n * x.k)::G,U,rfl,rfl,λ_=>aD _,Y,λh=>by simp[v.1,v.2]at h,λ_=>⟨by rw[aW,<- W];exact kl,λp j=>?_⟩,λp j=>.inl ?_,λy i=>by simp[i],λy=>by dsimp only;split<;>simp⟩
    ·rcases aL.1 j with rfl|j
     ·exact⟨by simp[L],a7 v.2,a3⟩
     ·have hm:γ.ω p.1=.row r:=C _ (by rw[W];simp;exact .inr ⟨p.2,j⟩);exact⟨by simp[hm],hz p j⟩
    ·rcases aL.1 j with rfl|j
     ·exact L
     ·exact C _ (by rw[W];simp;exact .inr ⟨p.2,j⟩)
   ·
    have H:∀p∈G,x.deep=I->γ.ω p.1=.row r:=λp j hd=>C _ (by rw[(a9 hd).1];simp;exact .inr ⟨p.2,j⟩);have fQ:∃h':Nat->Nat,(∀y,γ.h y<=h' y)/\eI h' ((g,o+n * x.k)::G)/\∀y,γ.ω y≠.row r->h' y=γ.h y:=by
     refine⟨λy=>if γ.ω y=.row r then γ.h y+((((g,o+n * x.k)::G).map th).foldl max 0) else γ.h y,λy=>by dsimp only;split<;>omega,?_,λy i=>by simp[i]⟩;have mx:∀(l:M Nat) (a b:Nat),(b=a\/b∈l)->b<=l.foldl max a:=by
      intro l
      induction l with
      |nil=>intro a b j;simp at j;simp[j]
      |cons d l ih=>
       intro a b j;simp only[xN];have h1:=ih (max a d) (max a d) (.inl rfl);rcases j with rfl|j
       ·omega
       ·rcases aL.1 j with rfl|j
        ·omega
        ·exact ih _ _ (.inr j)
     intro p j;have hle:=mx (((g,o+n * x.k)::G).map th) 0 p.2 (.inr (cJ j));by_cases i:γ.ω p.1=.row r
     ·simp only[i,if_true];omega
     ·simp only[if_neg i];rcases aL.1 j with rfl|j
      ·exact absurd L i
      ·cases hd:x.deep with
       |true=>exact absurd (H p j hd) i
       |false=>exact (vh hd).2 p j
    obtain⟨h',m1,m2,T⟩:=fQ;have U:=t.settle (h':=h') (ω':=λy=>if γ.ω y=.row r then .free else γ.ω y) m1
     (λy i=>by
      have hr:γ.ω y=.row r:=by
       rcases jK (γ.ω y=.row r) with h|h
       ·exact h
       ·exact absurd (T y h) i
      have ho:=D.own y (by rw[hr];simp);exact⟨ho.1,ho.2,X y hr⟩)
     (λy=>by
      by_cases i:γ.ω y=.row r
      ·exact .inr ⟨.inl (by simp[i]),by rw[i];simp,X y i⟩
      ·exact .inl (by simp[i]))
     (λy b i=>by
      by_cases B:γ.ω y=.row r
      ·simp[B]at i
      ·simp only[if_neg B]at i;rw[T y B];exact D.oq y b i)
    refine⟨_,_,U,rfl,rfl,m1,Y,λ_=>m2,λh=>absurd h v,λp j=>?_,λy i=>by simp[i,T y i],λy=>by dsimp only;split<;>simp⟩;cases hd:x.deep with
    |false=>exact .inr rfl
    |true=>
     rcases aL.1 j with rfl|j
     ·exact .inl L
     ·exact .inl (H p j hd)
end
theorem GJ{v:Value}(h:one v=I):v.oneCell'=I:=by
 cases v<;>simp_all[one,Value.oneCell']
theorem CJ.next'{a w b:World}(h:CJ a.heap.size a w)(c:CJ w.heap.size w b):CJ a.heap.size a b:=MQ h c h.size
section
variable {P:Program} {w:World}
theorem LY{t ty e:TypeId}{i:TypeInfo}{a:Value}{k by_:Nat}(s:P.underlying t=Z (.slice e))(C:P.info? e=Z i)(hz:i.zero=Z a)(W:i.size=k)(V:i.bytes=by_)(Mz:a.cells.size=k)(hk:0 < k)
  {v:Value} {n:Nat} {xs:M Value} (R:xs.length=n * k) (hv:(v=.slice O 0 0/\n=0)\/∃g d T f,v=.slice (Z ⟨g,0,O⟩) n d/\kJ w g T f/\n<=d/\d<=maxLen/\f.length=d * k/\f.take (n * k)=xs)
  {u:Value} {m:Nat} {news:M Value} (H:news.length=m * k) (S:(m=0/\∃A c,u=.slice A 0 c)\/∃b o c,u=.slice (Z ⟨b,o,O⟩) m c/\iA w b o news) (h1:∀y∈news,one y=I) (K:n+m<=maxLen) (X:(n+m) * by_<=room) :
  ∃L F,(Builtin.append_ #[t,t] ty #[v,u]).run P w=.ok L F/\
   ((m=0/\L=v/\F=w)\/
    (∃g d T f,v=.slice (Z ⟨g,0,O⟩) n d/\kJ w g T f/\L=.slice (Z ⟨g,0,O⟩) (n+m) d/\n+m<=d/\d<=maxLen/\f.length=d * k/\f.take (n * k)=xs/\F=gy w g (.cells (cO f (n * k) news).toArray T (0,0)))\/
    (∃d D,L=.slice (Z ⟨w.heap.size,0,O⟩) (n+m) d/\n+m<=d/\d<=maxLen/\F.heap.size=w.heap.size+1/\CJ w.heap.size w F/\kJ F w.heap.size e D/\D.length=d * k/\D.take ((n+m) * k)=xs++news)):=by
 subst W;subst V;have amZ:n+m<=9223372036854775807:=by simp only[maxLen]at K;omega
 have ow:(n+m) * i.bytes<=140737488355328:=X;have r:(xs++news).length=(n+m) * i.size:=by rw[bh,R,H,lu]
 by_cases hm:m=0
 ·subst hm;have hn:news=[]:=cy (by simpa using H);subst hn;refine⟨v,w,?_,.inl ⟨rfl,rfl,rfl⟩⟩;rcases hv with ⟨rfl,rfl⟩|⟨g,d,T,f,rfl,hB,DU,q,N,Y⟩
  ·rcases S with ⟨_,A,c,rfl⟩|⟨b,o,c,rfl,_⟩
   ·cases A<;>simp[Builtin.append_,run_underlying s,sizeOf,typeInfo,C,Builtin.lenOf,Builtin.firstCells,loadCells,loadCellsFrom]
   ·simp[Builtin.append_,run_underlying s,sizeOf,typeInfo,C,Builtin.lenOf,Builtin.firstCells,loadCells,loadCellsFrom]
  ·rcases S with ⟨_,A,c,rfl⟩|⟨b,o,c,rfl,_⟩
   ·cases A<;>simp[Builtin.append_,run_underlying s,sizeOf,typeInfo,C,Builtin.lenOf,Builtin.firstCells,loadCells,loadCellsFrom,DU,storeCells]
   ·simp[Builtin.append_,run_underlying s,sizeOf,typeInfo,C,Builtin.lenOf,Builtin.firstCells,loadCells,loadCellsFrom,DU,storeCells]
 ·rcases S with ⟨h,_⟩|⟨b,o,c,rfl,ic⟩
  ·omega
  ·have At:∀j y,news[j]?=Z y->w.cell? ((⟨b,o,O⟩:Addr).add j)=Z y:=by
    intro j y G;rw[qG];exact ic j y G
   have p:∀(l:Nat),l < n+m->
     (∃d D,(Value.slice (Z ⟨w.heap.size,0,O⟩) (n+m) (grownCap w (n+m) l e))=.slice (Z ⟨w.heap.size,0,O⟩) (n+m) d/\n+m<=d/\d<=maxLen/\(w.drew.alloc (.cells (xs.toArray++news.toArray++Builtin.zeroCells a.cells (grownCap w (n+m) l e - (n+m))) e)).heap.size=w.heap.size+1/\
      CJ w.heap.size w (w.drew.alloc (.cells (xs.toArray++news.toArray++Builtin.zeroCells a.cells (grownCap w (n+m) l e - (n+m))) e))/\kJ (w.drew.alloc (.cells (xs.toArray++news.toArray++Builtin.zeroCells a.cells (grownCap w (n+m) l e - (n+m))) e)) w.heap.size e D/\D.length=d * i.size/\D.take ((n+m) * i.size)=xs++news):=by
    intro l ho;have xT:=grownCap_ge w (n+m) l e;have q:grownCap w (n+m) l e<=maxLen:=grownCap_le_maxLen w (n+m) l e K;refine⟨_,(xs++news)++(Builtin.zeroCells a.cells (grownCap w (n+m) l e - (n+m))).toList,rfl,xT,q,by rw[size_alloc];rfl,?_,?_,?_,?_⟩
    ·exact (MR w).drew.next' (xk w.drew _ _)
    ·have e1:xs.toArray++news.toArray++Builtin.zeroCells a.cells (grownCap w (n+m) l e - (n+m))=((xs++news)++(Builtin.zeroCells a.cells (grownCap w (n+m) l e - (n+m))).toList).toArray:=by
      apply Array.ext'
      simp
     rw[e1];exact kJ.new w.drew e _
    ·rw[bh,r,eQ,size_zeroCells,Mz,<- lu]
     congr 1
     omega
    ·rw[<- r];exact oR
   rcases hv with ⟨rfl,rfl⟩|⟨g,d,T,f,rfl,hB,DU,q,N,Y⟩
   ·have Q:xs=[]:=cy (by simpa using R);subst Q;have U:=run_append_nil (P:=P) w t ty e i a s C hz ⟨b,o,O⟩ m c news H At (by omega) (by omega) (by have hb:=ow;simp only[bo]at hb;omega);have hg:=p 0 (by omega);simp only[bo,av,Array.empty_append]at hg ⊢;exact⟨_,_,U,.inr (.inr hg)⟩
   ·by_cases x:n+m<=d
    ·have BK:n * i.size+news.length<=f.length:=by rw[H,N,<- lu];exact fJ _ x
     have hf:=run_firstCells_some (P:=P) w i.size m ⟨b,o,O⟩ m c news H At;have tn:=nZ (P:=P) (o:=n * i.size) news 0 w f hB (by simpa using BK) h1;simp only[cd]at tn;refine⟨_,_,?_,.inr (.inl ⟨g,d,T,f,rfl,hB,rfl,x,q,N,Y,rfl⟩)⟩;simp[Builtin.append_,run_underlying s,sizeOf,typeInfo,C,Builtin.lenOf,x,hf,Addr.add_lit,tn]
    ·have B:∀j y,xs[j]?=Z y->w.cell? ((⟨g,0,O⟩:Addr).add j)=Z y:=by
      intro j y G;rw[qG,bo,hB.cell];rw[<- Y,cS]at G
      split at G
      ·exact G
      ·cases G
     have U:=run_append_grow (P:=P) w t ty e i a s C hz ⟨g,0,O⟩ n d xs R B ⟨b,o,O⟩ m c news H At (by omega) (by omega) (growslice_fits (by omega) ow);exact⟨_,_,U,.inr (.inr (p d (by omega)))⟩
end
end
section
open Go.RowKit
def zG(a:Gh)(w:World)(g:Nat):Prop:=a.ω g=.dM/\a.h g=0/\oZ w g
section
variable {h0:Nat->Nat} {io:M Nat} {w0:World} {f:Fm} {w:World}
theorem v8:∀{i:M C} {s j:St} {g:M D} {l:Bool},HA s i=Z (g,l,j)->i.all C.cell=I/\g.length=i.length
 |[],s,j,g,l,h=>by simp[HA]at h;simp[<- h.1]
 |c::i,s,j,g,l,h=>by
  unfold HA at h;cases c with
  |d x=>
   simp only[ak]at h;obtain⟨⟨n,e,m⟩,b,a⟩:=h;simp[aI]at a;have:=v8 b;simp[C.cell,this.1,<- a.1,this.2]
  |nil k o=>
   simp only[ak]at h;obtain⟨⟨n,e,m⟩,b,a⟩:=h;simp[aI]at a;have:=v8 b;simp[C.cell,this.1,<- a.1,this.2]
  |ref r=>
   simp only at h
   split at h
   ·simp only[ak]at h;obtain⟨⟨n,e,m⟩,b,a⟩:=h;simp[aI]at a;have:=v8 b;simp[C.cell,this.1,<- a.1,this.2]
   ·cases h
  |_=>simp at h
structure Emb (γ:Gh) (w:World) (dp:Bool) (G:Fp) (γ':Gh):Prop where
 β:γ'.β=γ.β
 sl:γ'.sl=γ.sl
 h:∀g,γ.h g<=γ'.h g
 some_:∀be∈G,be.2<=γ'.h be.1\/zG γ' w be.1
 deep:dp=true->(G.map cz).Nodup/\∀be∈G,zG γ' w be.1/\γ.ω be.1≠.dM
 dM:∀g,γ.ω g=.dM->γ'.ω g=.dM/\γ'.h g=γ.h g
 own:∀g,γ'.ω g=γ.ω g\/γ'.ω g=.dM\/γ'.ω g=.free
theorem Ac:∀(q:M C) {t:Gh} {s S:St} {R:M Value} {T:M D} {U:Bool},Inv t h0 io w0 s f w->fq t w q R->HA s q=Z (T,U,S)->
  ∃γ' G,Inv γ' h0 io w0 S f w/\fp w T R G/\Emb t w U G γ'
 |[],t,s,S,R,T,U,L,N,l=>by
  simp[HA]at l;obtain⟨rfl,rfl,rfl⟩:=l;simp only[fq]at N;subst N;exact⟨t,[],L,by simp[fp],⟨rfl,rfl,λ_=>aD _,λ_ h=>by simp at h,λ_=>by simp,λ_ h=>⟨h,rfl⟩,λ_=>.inl rfl⟩⟩
 |c::q,t,s,S,R,T,U,L,N,l=>by
  simp only[fq]at N;obtain⟨v,fx,rfl,y,V⟩:=N;unfold HA at l;cases c with
  |d x=>
   simp only[ak]at l;obtain⟨⟨iF,Q,s1⟩,P,p⟩:=l;simp only[aI]at p;obtain⟨rfl,rfl,rfl⟩:=p;obtain⟨γ',G,K,B,m⟩:=Ac q L V P;simp only[CR]at y;obtain⟨F,hr,hs⟩:=y;refine⟨γ',F++G,K,by simp only[fp];exact⟨v,fx,F,G,rfl,rfl,hr,B⟩,⟨m.β,m.sl,m.h,λj i=>?_,λhd=>?_,m.dM,m.own⟩⟩
   ·rcases ba.1 i with i|i
    ·exact .inl (aG (hs j i) (m.h _))
    ·exact m.some_ j i
   ·simp only[ai]at hd;have hF:F=[]:=by
     have:fp w [x] [v] F:=by simp only[fp];exact⟨v,[],F,[],rfl,by simp,hr,rfl,rfl⟩
     exact this.plain (by simp[hd.1])
    subst hF;exact m.deep hd.2
  |nil k fl=>
   simp only[ak]at l;obtain⟨⟨iF,Q,s1⟩,P,p⟩:=l;simp only[aI]at p;obtain⟨rfl,rfl,rfl⟩:=p;obtain⟨γ',G,K,B,m⟩:=Ac q L V P;simp only[CR]at y;obtain⟨rfl,hk⟩:=y;refine⟨γ',G,K,?_,m⟩;simp only[fp];refine⟨_,fx,[],G,rfl,rfl,?_,B⟩;simp only[Rp];exact⟨O,0,0,rfl,rfl,aD _,by simp[maxLen],λ_=>jE,hk,λ_ h=>by simp at h,.inl ⟨rfl,trivial⟩⟩
  |ref r=>
   simp only at l
   split at l
   ·rename_i x hx;simp only[ak]at l;obtain⟨⟨iF,Q,s1⟩,P,p⟩:=l;simp only[aI]at p;obtain⟨rfl,rfl,rfl⟩:=p;obtain⟨pq,G1,K,b1,A,m1,B,Y,d1,o1,k1,w1⟩:=L.take hx;obtain⟨mB,G2,i2,r2,o⟩:=Ac q K (V.mono (γ':=pq) m1 (λ_ _ _=>rfl) b1 A q) P;simp only[CR]at y;have up:∀j∈G1,(x.deep && !x.fz)=I->zG mB w j.1:=λj i hd=>by
     obtain⟨_,hl⟩:=d1 hd;obtain⟨l1,H,l3⟩:=hl j i;obtain⟨X,W⟩:=o.dM _ l1;exact⟨X,W.trans H,l3⟩
    refine⟨mB,G1++G2,i2,by simp only[fp];exact⟨v,fx,G1,G2,rfl,rfl,by rw[y.1];exact B,r2⟩,⟨o.β.trans b1,o.sl.trans A,λg=>aG (m1 g) (o.h g),λj i=>?_,λhd=>?_,λg hg=>?_,λg=>?_⟩⟩
    ·rcases ba.1 i with i|i
     ·cases hd:(x.deep && !x.fz) with
      |true=>exact .inr (up j i hd)
      |false=>exact .inl (aG (Y hd j i) (o.h _))
     ·exact o.some_ j i
    ·rw[ai]at hd;obtain⟨n,hd2⟩:=hd;obtain⟨n1,l1⟩:=d1 n;obtain⟨n2,H⟩:=o.deep hd2;have E8:x.deep=I:=by simp at n;exact n.1
     refine⟨?_,λj i=>?_⟩
     ·rw[bN,bM];refine⟨n1,n2,?_⟩;intro a ha b i e;subst e;obtain⟨be1,BH,rfl⟩:=cj.1 ha;obtain⟨be2,DS,e2'⟩:=cj.1 i;exact (H be2 DS).2 (by rw[e2'];exact (l1 be1 BH).1)
     ·rcases ba.1 i with i|i
      ·refine⟨up j i n,?_⟩;rcases o1 j i with h|h
       ·rw[h];simp
       ·rw[E8]at h;cases h
      ·refine⟨(H j i).1,λh=>(H j i).2 ?_⟩;rw[(k1 j.1 (by rw[h];simp)).1];exact h
    ·have h3:=k1 g (by rw[hg];simp);obtain⟨X,W⟩:=o.dM g (by rw[h3.1];exact hg);exact⟨X,W.trans h3.2⟩
    ·rcases o.own g with h|h
     ·rw[h];exact w1 g
     ·exact .inr h
   ·cases l
  |_=>simp at l
theorem Inv.acV{d:Gh}{s:St}(n:Inv d h0 io w0 s f w)(G:Fp)(t:∀k∈G,k.2<=d.h k.1\/zG d w k.1) :
  ∃e,Inv e h0 io w0 s f w/\e.β=d.β/\e.sl=d.sl/\(∀g,d.h g<=e.h g)/\eI e.h G/\(∀g,d.ω g=.free->e.ω g=.free)/\∀g,d.ω g≠.dM->e.h g=d.h g:=by
 have mx:∀(l:M Nat) (a b:Nat),(b=a\/b∈l)->b<=l.foldl max a:=by
  intro l
  induction l with
  |nil=>intro a b i;simp at i;simp[i]
  |cons c l p=>
   intro a b i;simp;have x:=p (max a c) (max a c) (.inl rfl);rcases i with rfl|i
   ·omega
   ·rcases aL.1 i with rfl|i
    ·omega
    ·exact p _ _ (.inr i)
 have q:=n.settle (h':=λy=>if d.ω y=.dM then d.h y+(G.map th).foldl max 0 else d.h y) (ω':=λy=>if d.ω y=.dM then .free else d.ω y) (λy=>by split<;>omega)
  (λy m=>by
   have j:d.ω y=.dM:=by
    simp_all
   have v:=n.own y (by rw[j];simp);simp_all)
  (λy=>by
   by_cases j:d.ω y=.dM
   ·simp_all
   simp_all)
  (λy b m=>by
   by_cases j:d.ω y=.dM
   ·simp[j]at m
   ·simp[if_neg j]at m ⊢;exact n.oq y b m)
 refine⟨_,q,rfl,rfl,λy=>by dsimp only;split<;>omega,λk i=>?_,λg o=>by simp[o],λg o=>by simp[o]⟩;have r:=mx (G.map th) 0 k.2 (.inr (cJ i));dsimp only;split
 ·omega
 ·rename_i j;rcases t k i with h|h
  ·exact h
  ·exact absurd h.1 j
theorem Nk{k:Nat}{Y:Bool}:∀(p:M C) {o:Gh} {s y:St} {q:M Value} {es:M (M D)} {A:Bool},Inv o h0 io w0 s f w->fq o w p q->EI k Y s p=Z (es,A,y)->
  ∃γ' G,Inv γ' h0 io w0 y f w/\fw w es (q.flatMap λv=>v.cells.toList) G/\Emb o w A G γ'/\es.length=p.length/\(∀e∈es,e.length=k)/\(Y=I->flat es)/\∀v∈q,v.cells.size=k
 |[],o,s,y,q,es,A,N,x,i=>by
  simp[EI]at i;obtain⟨rfl,rfl,rfl⟩:=i;simp only[fq]at x;subst x;exact⟨o,[],N,by simp[fw],⟨rfl,rfl,λ_=>aD _,λ_ h=>by simp at h,λ_=>by simp,λ_ h=>⟨h,rfl⟩,λ_=>.inl rfl⟩,rfl,λ_ h=>by simp at h,λ_=>jE,λ_ h=>by simp at h⟩
 |c::p,o,s,y,q,es,A,N,x,i=>by
  simp only[fq]at x;obtain⟨v,fx,rfl,hv,xw⟩:=x;unfold EI at i
  split at i
  ·rename_i ds dp1 s1 X
   split at i
   ·rename_i L;simp only[ak]at i;obtain⟨⟨jJ,dp2,s2⟩,h2,W⟩:=i;simp only[aI]at W;obtain⟨rfl,rfl,rfl⟩:=W;obtain⟨vl,r⟩:=v8 X;obtain⟨SZ,_,_⟩:=hv.cells vl;obtain⟨T,G1,i1,r1,l⟩:=Ac _ N SZ X;obtain⟨U,G2,i2,r2,m,l2,k2,f2,z2⟩:=Nk p i1 (xw.mono (γ':=T) l.h (λ_ _ _=>rfl) l.β l.sl p) h2;have nz:v.cells.size=k:=by rw[<- eQ,SZ.length,<- r];exact L.1
    have up:∀g,zG T w g->zG U w g:=λg t=>by
     obtain⟨F,B⟩:=m.dM g t.1;exact⟨F,B.trans t.2.1,t.2.2⟩
    refine⟨U,G1++G2,i2,?_,⟨m.β.trans l.β,m.sl.trans l.sl,λg=>aG (l.h g) (m.h g),λn j=>?_,λhd=>?_,λg t=>?_,λg=>?_⟩,by simp[l2],?_,?_,?_⟩
    ·simp only[fw,l7];exact⟨_,_,G1,G2,rfl,rfl,r1,r2⟩
    ·rcases ba.1 j with j|j
     ·rcases l.some_ n j with h|h
      ·exact .inl (aG h (m.h _))
      ·exact .inr (up _ h)
     ·exact m.some_ n j
    ·rw[ai]at hd;obtain⟨n1,H⟩:=l.deep hd.1;obtain⟨n2,S⟩:=m.deep hd.2;refine⟨?_,λn j=>?_⟩
     ·rw[bN,bM];refine⟨n1,n2,?_⟩;intro a ha b j e;subst e;obtain⟨R,BH,rfl⟩:=cj.1 ha;obtain⟨Q,DS,P⟩:=cj.1 j;exact (S Q DS).2 (by rw[P];exact (H R BH).1.1)
     ·rcases ba.1 j with j|j
      ·exact⟨up _ (H n j).1,(H n j).2⟩
      ·refine⟨(S n j).1,λh=>(S n j).2 ?_⟩;exact (l.dM _ h).1
    ·obtain⟨F,B⟩:=l.dM g t;obtain⟨u3,u4⟩:=m.dM g F;exact⟨u3,u4.trans B⟩
    ·rcases m.own g with h|h
     ·rw[h];exact l.own g
     ·exact .inr h
    ·intro e i;rcases aL.1 i with rfl|i
     ·exact L.1
     ·exact k2 e i
    ·intro V e i;rcases aL.1 i with rfl|i
     ·have:=L.2 V
      simpa [dV] using this
     ·exact f2 V e i
    ·intro d K;rcases aL.1 K with rfl|K
     ·exact nz
     ·exact z2 d K
   ·cases i
  ·cases i
end
end
section
open Go.RowKit
theorem CY{b:Nat}:∀{c:M C},c.all C.const=I->C.kR b c=c
 |[],_=>by simp[C.kR]
 |a::c,h=>by
  simp only[cX,ai]at h;have d:=CY (b:=b) h.2;have e:=h.1;cases a<;>simp_all[C.kR,C.kill,C.const]
def aks:Value->D->Bool
 | .int k n,.int d c=>k ==d && n ==c && k.wrap n ==n
 | .bool b,.bool e=>b ==e
 | .string s,.str a=>s.data.toList ==a.data.toList && n8 s.size maxLen
 | .slice O 0 0,.list k _ []=>fV 0 k
 |_,_=>J
def GG:M Value->M D->Bool
 |[],[]=>I
 |v::a,c::cs=>aks v c && GG a cs
 |_,_=>J
theorem Jm{w:World}:∀(a:M Value) (c:M D),GG a c=I->fp w c a []
 |[],[],_=>by simp[fp]
 |[],_::_,h=>by simp[GG]at h
 |_::_,[],h=>by simp[GG]at h
 |v::a,d::c,h=>by
  simp only[GG,ai]at h;simp only[fp];refine⟨v,a,[],[],rfl,rfl,?_,Jm a c h.2⟩;have ok:=h.1;unfold aks at ok
  split at ok
  ·simp only[ai,beq_iff_eq]at ok;obtain⟨⟨rfl,rfl⟩,b⟩:=ok;simp[Rp,b]
  ·simp only[beq_iff_eq]at ok;subst ok;simp[Rp]
  ·simp only[ai,beq_iff_eq,Nat.ble_eq]at ok;obtain⟨e,b⟩:=ok;rw[L4 e]at b ⊢;simp[Rp,b]
  ·simp only[oh]at ok;simp only[Rp];exact⟨O,0,0,rfl,rfl,aD _,by simp[maxLen],λ_=>jE,ok,λ_ h=>by simp at h,.inl ⟨rfl,trivial⟩⟩
  ·cases ok
section
variable {P:Program} {γ:Gh} {h0:Nat->Nat} {io:M Nat} {w0:World} {s s':St} {f:Fm} {w:World} {N:Nat} {ty:TypeId} {pos:String} {aft:Array Edge} {gd:u (Nat×Bool)} {K:Fm->World->Prop}
 {cf:Nat->M A->u (M A×M A)} {mf:Nat->Bool->M D->Int->u (M D×Int)}
theorem Po{T:TypeId}{a:M Value}(h:vq P T=Z a):∃z0:Value,z0.cells.toList=a/\∀w,(zeroValue T).run P w=.ok z0 w:=by
 unfold vq at h;cases c:P.info? T with
 |none=>rw[c]at h;simp at h
 |some i=>
  rw[c]at h;cases b:i.zero with
  |none=>simp[b]at h
  |some z0=>
   simp[b]at h;exact⟨z0,h,λw=>by simp[zeroValue,typeInfo,c,b]⟩
theorem acb(d:Inv γ h0 io w0 s f w){T:TypeId}{a:M Value}{j:M C}{b:Nat}(r:vq P T=Z a)(H:LM a j=I)(i:lP cf mf s (Z b) (.alloc j)=Z s')
  (h:∀c n k,Inv c h0 io w0 s' n k->Tr (Z b) [b] γ w c k f n->K n k):vr P N ⟨Z b,.alloc T,ty,pos,aft,gd⟩ f w K:=by
 simp only[lP]at i
 split at i
 ·rename_i v;simp only[ae]at i;subst i;obtain⟨z0,m,l⟩:=Po r;have l:(execOp (fr f N).eval ⟨Z b,.alloc T,ty,pos,aft,gd⟩).run P w=.ok (.value (.pointer (Z ⟨w.heap.size,0,O⟩))) (w.alloc (.cells a.toArray T)):=by
   simp[execOp,Instr.alloc,l,newVar,newRow,newObj,Sem.run,<- m]
  refine Jk l λq L o hB=>?_;have G:=d.Bi o;obtain⟨c,p,F,B,y,_,_⟩:=G.PT (b:=b) hB (.inl (d.tf (aD _))) (.inl d.size) (d.fQ _ (aD _)) (AN a j H);rw[CY v]at p;refine h c _ q (p.put b (.ptr b 0) _ (by simp only[CR,F])) ⟨kC d o _,λx t=>B x (λe=>t (by rw[e])),λg=>by rw[y];exact aD _,.put⟩
 ·cases i
theorem ajV(a:Inv γ h0 io w0 s f w){T:TypeId}{x:Operand}{y:KX}{b:Nat}(i:km N x y=I)(c:lP cf mf s (Z b) (.box y)=Z s')
  (h:∀γ' k d,Inv γ' h0 io w0 s' k d->Tr (Z b) [b] γ w γ' d f k->K k d):vr P N ⟨Z b,.box T x,ty,pos,aft,gd⟩ f w K:=by
 simp only[lP]at c
 split at c
 ·rename_i p;simp only[ae]at c;subst c;obtain⟨n,_,_⟩:=(cA a i).cells p;have o:(execOp (fr f N).eval ⟨Z b,.box T x,ty,pos,aft,gd⟩).run P w=.ok (.value (.pointer (Z ⟨w.heap.size,0,O⟩))) (w.alloc (.cells ((fr f N).eval x).cells.toList.toArray T)):=by
   simp[execOp,Instr.box,newVar,newRow,newObj,Sem.run]
  refine Jk o λm C j hB=>?_;have B:=a.Bi j;have l:fq γ m (fW s y).cells ((fr f N).eval x).cells.toList:=n.mono (γ':=γ) (λ_=>aD _) (kC a j (λ_=>False)).cell rfl rfl _;obtain⟨γ',v,t,r,q,_,_⟩:=B.PT (b:=b) hB (.inl (a.tf (aD _))) (.inl a.size) (a.fQ _ (aD _)) l;refine h γ' _ m (v.put b (.ptr b 0) _ (by simp only[CR,t])) ⟨kC a j _,λx i=>r x (λe=>i (by rw[e])),λg=>by rw[q];exact aD _,.put⟩
 ·cases c
theorem fw.Bi{w a:World}{es:M (M D)}{b:M Value}{G:Fp}(h:fw w es b G)(c:CJ w.heap.size w a):fw a es b G:=
 h.dF es λe d j _=>World.cell?_of_block (w:=w) (c.block _ (fw.lt es h e d))
theorem Inv.newRow(d:Inv γ h0 io w0 s f w){γ0:Gh}{i:World}(l:CJ w.heap.size w i){T:TypeId}{t:M Value}(hB:kJ i w.heap.size T t){es:M (M D)}{q:M Value}{k:Nat}{B dp:Bool}{G:Fp}{n c:Nat}(hs:i.heap.size=w.heap.size+1)
  (C:fw w es q G) (hx:t.take (n * k)=q) (Y:n=es.length) (DU:n<=c) (hc:c<=maxLen) (x:t.length=c * k) (X:0 < k) (CU:∀e∈es,e.length=k) (W:B=I->flat es) (he:Emb γ0 w dp G γ) (r:Nat) :
  ∃b,Inv b h0 io w0 (s.newRow r ⟨es,k,B,dp,I,J⟩) f i/\b.sl r=.slice (Z ⟨w.heap.size,0,O⟩) n c/\b.β=γ.β/\(∀g,γ.h g<=b.h g):=by
 have v:iA i w.heap.size 0 q:=by
  intro j a y;rw[bo,hB.cell];rw[<- hx,cS]at y
  split at y
  ·exact y
  ·cases y
 cases dp with
 |true=>
  obtain⟨kl,V⟩:=he.deep rfl;have S:=d.Bi l;have F:pY γ.h i ⟨es,k,B,I,I,J⟩ (.slice (Z ⟨w.heap.size,0,O⟩) n c) (w.heap.size::G.map cz):=by
   refine⟨_,n,c,rfl,Y,DU,hc,X,CU,W,.inr ⟨w.heap.size,0,q,G,rfl,by omega,⟨by omega,l.H0 _ (aD _)⟩,C.Bi l,v,by rw[d.fQ _ (aD _)];omega,λ_=>d.fQ _ (aD _),λ_=>⟨rfl,T,t,hB,x⟩,λ_=>⟨rfl,λo m=>⟨(V o m).1.2.1,(kC d l (λ_=>False)).fR _ (V o m).1.2.2⟩⟩,λh=>by cases h⟩⟩
  have dR:=fw.lt es C;obtain⟨b,R,Q,L,H,_⟩:=S.vL (r:=r) F (cC.2 ⟨λhm=>by
    obtain⟨o,m,e⟩:=cj.1 hm;have:=dR o m;omega,kl⟩) (λg p=>by
    rcases aL.1 p with rfl|p
    ·exact⟨.inl (d.tf (aD _)),by omega,.inl d.size⟩
    ·obtain⟨o,m,rfl⟩:=cj.1 p;have x:=(V o m).1.1;exact⟨.inr (.inl x),by have:=dR o m;omega,(d.own _ (by rw[x];simp)).2⟩)
  exact⟨b,R,Q,L,λg=>by rw[H];exact aD _⟩
 |false=>
  obtain⟨mB,i2,b2,s2,m2,U,fr2,k2⟩:=d.acV G he.some_;have S:=i2.Bi l;have F:pY mB.h i ⟨es,k,B,J,I,J⟩ (.slice (Z ⟨w.heap.size,0,O⟩) n c) [w.heap.size]:=by
   refine⟨_,n,c,rfl,Y,DU,hc,X,CU,W,.inr ⟨w.heap.size,0,q,G,rfl,by omega,⟨by omega,l.H0 _ (aD _)⟩,C.Bi l,v,by rw[i2.fQ _ (aD _)];omega,λ_=>i2.fQ _ (aD _),λ_=>⟨rfl,T,t,hB,x⟩,(λh=>by cases h),λ_=>⟨rfl,U⟩⟩⟩
  obtain⟨b,R,Q,L,H,_⟩:=S.vL (r:=r) F (by simp) (λg p=>by
    simp only[cT]at p;subst p;exact⟨.inl (i2.tf (aD _)),by omega,.inl d.size⟩)
  exact⟨b,R,Q,L.trans b2,λg=>by rw[H];exact m2 g⟩
def GC(N:Nat):Nat->M (Nat×Operand)->M KX->Bool
 |_,[],[]=>I
 |j,(i,x)::a,y::ys=>i ==j && km N x y && GC N (j+1) a ys
 |_,_,_=>J
theorem Jl(b:Inv γ h0 io w0 s f w):∀(j:Nat) (a:M (Nat×Operand)) (ys:M KX),GC N j a ys=I->
  fq γ w (ys.map (fW s)) (a.map λp=>(fr f N).eval p.2)/\a.map cz=List.range' j a.length/\a.length=ys.length
 |_,[],[],_=>by simp[fq]
 |_,[],_::_,h=>by simp[GC]at h
 |_,_::_,[],h=>by simp[GC]at h
 |j,(i,x)::a,y::ys,h=>by
  simp only[GC,ai,beq_iff_eq]at h;obtain⟨⟨rfl,k⟩,g⟩:=h;obtain⟨e,d,c⟩:=Jl b (i+1) a ys g;refine⟨?_,by simp[List.range',d],by simp[c]⟩;simp only[aW,fq];exact⟨_,_,rfl,cA b k,e⟩
theorem Nz{k:Nat}:∀(d:M (Nat×Value)) (j:Nat) (b A:M Value),b.length=j * k->d.map cz=List.range' j d.length->(∀v∈d,v.2.cells.size=k)->A.length=d.length * k->
  Instr.fill (λi=>Z (i * k,k)) (b++A).toArray d=Z (b++d.flatMap λv=>v.2.cells.toList).toArray
 |[],j,b,A,_,_,_,g=>by
  have:A=[]:=cy (by simpa using g);simp[Instr.fill,this]
 |(i,v)::d,j,b,A,l,m,n,g=>by
  simp only[aW,aH,List.range',cl]at m;obtain⟨rfl,m⟩:=m;have h:=n (i,v) (by simp);simp only at h
  simp only[aH,j5]at g;simp only[Instr.fill,oQ,bh,l,g,h];rw[if_neg (by simp)];have e:v.cells.zipIdx.foldl (λr (c,j)=>r.setIfInBounds (i * k+j) c) (b++A).toArray=((b++v.cells.toList)++A.drop k).toArray:=by
   have o:=T5 (i * k) v.cells.toList (b++A).toArray (by simp[l,g,h]);simp only[zq]at o;rw[o]
   congr 1
   have t1:(b++A).take (i * k)=b:=by rw[<- l];exact oR
   have t2:(b++A).drop (i * k+k)=A.drop k:=by
    rw[List.drop_append,fN (by omega),l,vF,av]
   unfold cO;simp only[eQ,h,t1,t2]
  rw[e];have p:=Nz d (i+1) (b++v.cells.toList) (A.drop k) (by simp[l,h,j5]) m (λa q=>n a (by simp[q])) (by simp[g]);rw[p];simp
theorem acd(C:Inv γ h0 io w0 s f w){T a:TypeId}{n k:Nat}{fl:Bool}{b:Array (Nat×Operand)}{ys:M KX}{r:Nat}(hU:P.underlying T=Z (.slice a))(hS:pg P a=Z k)(l:n=0\/(vq P a).isSome=I)(B:GC N 0 b.toList ys=I)(hn:n=b.size)(hm:n8 (n * k) 16777216=I)
  (e:lP cf mf s (Z r) (.vn k fl ys)=Z s') (h:∀d L t,Inv d h0 io w0 s' L t->Tr (Z r) (r::AW (ys.map (fW s))) γ w d t f L->K L t):vr P N ⟨Z r,.buildSlice T n b,ty,pos,aft,gd⟩ f w K:=by
 simp only[lP]at e
 split at e
 ·rename_i es dp s1 F
  split at e
  ·rename_i X;simp only[ae]at e;subst e;obtain⟨H,R,m⟩:=Jl C 0 _ _ B;obtain⟨pq,G,i1,W,Q,l1,Y,f1,z1⟩:=Nk _ C H F;have nz:(b.toList.map λp=>(fr f N).eval p.2).flatMap (λv=>v.cells.toList)=(b.toList.map λp=>(p.1,(fr f N).eval p.2)).flatMap λv=>v.2.cells.toList:=by
    simp[List.flatMap_map]
   have UX:n=es.length:=by rw[l1,ay,<- m,hn,eQ]
   have Dr:((b.toList.map λp=>(fr f N).eval p.2).flatMap λv=>v.cells.toList).length=n * k:=by rw[fw.length es W Y,UX]
   have hm':n * k<=16777216:=by simpa using hm
   have mH:(execOp (fr f N).eval ⟨Z r,.buildSlice T n b,ty,pos,aft,gd⟩).run P w=.ok (.value (.slice (Z ⟨w.heap.size,0,O⟩) n n)) (w.alloc (.cells ((b.toList.map λp=>(fr f N).eval p.2).flatMap λv=>v.cells.toList).toArray a)):=by
    have q:¬(n * k > 2 ^ 24):=by omega
    have S:∀A:Array Value,A.size=n * k->Instr.fill (λi=>Z (i * k,k)) A (b.toList.map λp=>(p.1,(fr f N).eval p.2))=Z ((b.toList.map λp=>(fr f N).eval p.2).flatMap λv=>v.cells.toList).toArray:=by
     intro A hA;have h1:=Nz (k:=k) (b.toList.map λp=>(p.1,(fr f N).eval p.2)) 0 [] A.toList (by simp) (by rw[List.map_map,ay];exact R) (by
      intro v hv;obtain⟨p,hp,rfl⟩:=cj.1 hv;exact z1 _ (cJ hp)) (by simp[hA,hn])
     rw[nz]
     simpa using h1
    have o:=λV:Array Value=>S ((Array.range (n * k)).map (V[· % V.size]!)) (by simp);by_cases U:n * k=0
    ·have j:=o #[];simp only[execOp,Instr.buildSlice,Sem.run_bind,run_underlying hU,Result.andThen_ok,run_sizeOf hS,if_neg q,if_pos U,Sem.run_pure];simp only[mP]at j ⊢;rw[j];simp[newRow,newObj,Sem.run]
    ·have U7:(vq P a).isSome=I:=by
      rcases l with l|l
      ·subst l;simp at U
      ·exact l
     obtain⟨zl,QM⟩:=cD.1 U7;obtain⟨z0,_,y⟩:=Po QM;have j:=o z0.cells;simp only[execOp,Instr.buildSlice,Sem.run_bind,run_underlying hU,Result.andThen_ok,run_sizeOf hS,if_neg q,if_neg U,y,Sem.run_pure];simp only[mP]at j ⊢;rw[j];simp[newRow,newObj,Sem.run]
   refine Jk mH λw1 hs hk hB=>?_;obtain⟨d,h2,j,h4,h5⟩:=i1.newRow hk hB (n:=n) (c:=n) hs W (by rw[<- Dr,aR]) UX (aD _) (by simp[maxLen];have:n<=n * k:=Nat.le_mul_of_pos_right n X;omega) Dr X Y f1 Q r;refine h d _ w1 (h2.put r (.ref r) _ (by simp only[CR,j];exact⟨trivial,_,_,_,rfl⟩)) ⟨kC C hk _,λx _=>by rw[h4,Q.β],λg=>aG (Q.h g) (h5 g),.put⟩
  ·cases e
 ·cases e
end
end
section
open Go.RowKit
section
variable {γ:Gh} {h0:Nat->Nat} {io:M Nat} {w0:World} {s s':St} {f:Fm} {w:World}
theorem Inv.uX(v:Inv γ h0 io w0 s f w){r:Nat}{x:Row}(hl:look s.rw r=Z x) :
  ∃a A n c,Inv a h0 io w0 (s.dd r) f w/\a.β=γ.β/\a.sl=γ.sl/\a.h=γ.h/\(∀g,γ.ω g≠.row r->a.ω g=γ.ω g)/\(∀g,γ.ω g=.row r->a.ω g=.dM)/\
   γ.sl r=.slice A n c/\n=x.es.length/\n<=c/\c<=maxLen/\0 < x.k/\(∀e∈x.es,e.length=x.k)/\(x.fl=I->flat x.es)/\
   ((A=O/\c=0)\/∃g o m G,A=Z ⟨g,o,O⟩/\g < w.heap.size/\γ.ω g=.row r/\a.ω g=.dM/\oZ w g/\fw w x.es m G/\iA w g o m/\γ.h g<=o+n * x.k/\(x.fz=J->γ.h g=0)/\
    (x.app=I->o=0/\∃T C,kJ w g T C/\C.length=c * x.k)/\(∀d∈G,d.2<=γ.h d.1\/(zG a w d.1/\d.1≠g))/\(x.deep=I->(g::G.map cz).Nodup/\∀d∈G,zG a w d.1/\γ.ω d.1=.row r)):=by
 obtain⟨F,hR,t,p⟩:=v.rw r x hl;obtain⟨A,n,c,q1,q2,W,V,U,S,R,Q⟩:=hR;have B:=v.dd r;have Gy:∀g,γ.ω g=.row r->(∀b K,look (s.dd r).bx b=Z K->γ.ω g≠.box b)/\∀q y,look (s.dd r).rw q=Z y->γ.ω g≠.row q:=by
  intro g j;refine⟨λb K _=>by rw[j];simp,λq y Y=>?_⟩;simp only[St.dd,eK]at Y
  simp_all
 have X:=B.settle (h':=γ.h) (ω':=λy=>if γ.ω y=.row r then .dM else γ.ω y) (λ_=>aD _) (λg j=>absurd rfl j)
  (λy=>by
   by_cases i:γ.ω y=.row r
   ·exact .inr ⟨.inr (by simp[i]),by rw[i];simp,Gy y i⟩
   ·exact .inl (by simp[i]))
  (λy b i=>by
   by_cases L:γ.ω y=.row r
   ·simp[L]at i
   ·simp only[if_neg L]at i;exact v.oq y b i)
 refine⟨_,A,n,c,X,rfl,rfl,rfl,λg j=>by simp[j],λg j=>by simp[j],q1,q2,W,V,U,S,R,?_⟩;rcases Q with ⟨rfl,rfl,rfl⟩|⟨g,o,m,G,rfl,a2,a3,a4,a5,a6,a7,a8,a9,D⟩
 ·exact .inl ⟨rfl,rfl⟩
 ·have P:γ.ω g=.row r:=by
   cases hd:x.deep with
   |true=>exact p g (by rw[(a9 hd).1];simp)
   |false=>exact p g (by rw[(D hd).1];simp)
  have N:x.deep=I->∀d∈G,zG {γ with h:=γ.h,ω:=λy=>if γ.ω y=.row r then .dM else γ.ω y } w d.1/\γ.ω d.1=.row r:=λhd d l=>by
   have H:γ.ω d.1=.row r:=p _ (by rw[(a9 hd).1];simp;exact .inr ⟨d.2,l⟩);exact⟨⟨by simp[H],((a9 hd).2 d l).1,((a9 hd).2 d l).2⟩,H⟩
  refine .inr ⟨g,o,m,G,rfl,a2,P,by simp[P],a3,a4,a5,a6,a7,a8,λd l=>?_,λhd=>⟨by rw[<- (a9 hd).1];exact t,N hd⟩⟩;cases hd:x.deep with
  |true=>
   refine .inr ⟨(N hd d l).1,λe=>?_⟩;rw[(a9 hd).1]at t;exact (cC.1 t).1 (by rw[<- e];exact cJ l)
  |false=>exact .inl ((D hd).2 d l)
theorem Inv.Iw(v:Inv γ h0 io w0 s f w){r:Nat}{x:Row}{n c g o:Nat}{B:M Value}{G:Fp}(W:n=x.es.length)(DU:n<=c)(Y:c<=maxLen)(R:0 < x.k)(CU:∀e∈x.es,e.length=x.k)(N:x.fl=I->flat x.es)
  (C:g < w.heap.size) (P:γ.ω g=.dM\/γ.ω g=.free) (t:w0.heap.size<=g\/g∈io) (QI:oZ w g) (D:fw w x.es B G) (j:iA w g o B) (X:γ.h g<=o+n * x.k) (K:x.fz=J->γ.h g=0) (Q:x.app=I->o=0/\∃T L,kJ w g T L/\L.length=c * x.k)
  (CW:∀p∈G,p.2<=γ.h p.1\/(zG γ w p.1/\p.1≠g)) (E8:x.deep=I->(g::G.map cz).Nodup/\∀p∈G,zG γ w p.1) :
  ∃i F,Inv i h0 io w0 s f w/\i.β=γ.β/\i.sl=γ.sl/\(∀y,γ.h y<=i.h y)/\pY i.h w x (.slice (Z ⟨g,o,O⟩) n c) F/\F.Nodup/\(∀y∈F,(i.ω y=.free\/i.ω y=.dM\/i.ω y=.row r)/\y < w.heap.size/\(w0.heap.size<=y\/y∈io))/\(x.deep=J->eI i.h G)/\(∀y,i.ω y=γ.ω y\/i.ω y=.free):=by
 cases hd:x.deep with
 |true=>
  obtain⟨kl,Fa⟩:=E8 hd;have H:pY γ.h w x (.slice (Z ⟨g,o,O⟩) n c) (g::G.map cz):=by
   refine⟨_,n,c,rfl,W,DU,Y,R,CU,N,.inr ⟨g,o,B,G,rfl,C,QI,D,j,X,K,Q,λ_=>⟨rfl,λp m=>(Fa p m).2⟩,λh=>by rw[hd]at h;cases h⟩⟩
  have dR:=fw.lt _ D;exact⟨γ,_,v,rfl,rfl,λ_=>aD _,H,kl,λy q=>by
    rcases aL.1 q with rfl|q
    ·exact⟨by rcases P with h|h<;>simp[h],C,t⟩
    ·obtain⟨p,m,rfl⟩:=cj.1 q;have j:=(Fa p m).1;exact⟨.inr (.inl j),dR p m,(v.own _ (by rw[j];simp)).2⟩,(λh=>by cases h),λ_=>.inl rfl⟩
 |false=>
  have mx:∀(l:M Nat) (a b:Nat),(b=a\/b∈l)->b<=l.foldl max a:=by
   intro l
   induction l with
   |nil=>intro a b m;simp at m;simp[m]
   |cons d l U=>
    intro a b m;simp only[xN];have h1:=U (max a d) (max a d) (.inl rfl);rcases m with rfl|m
    ·omega
    ·rcases aL.1 m with rfl|m
     ·omega
     ·exact U _ _ (.inr m)
  have hs:=v.settle (h':=λy=>if γ.ω y=.dM/\y≠g then γ.h y+(G.map th).foldl max 0 else γ.h y) (ω':=λy=>if γ.ω y=.dM/\y≠g then .free else γ.ω y) (λy=>by split<;>omega)
   (λy q=>by
    have j:γ.ω y=.dM:=by
     simp_all
    have V:=v.own y (by rw[j];simp);exact⟨V.1,V.2,λ_ _ _=>by rw[j];simp,λ_ _ _=>by rw[j];simp⟩)
   (λy=>by
    by_cases j:γ.ω y=.dM/\y≠g
    ·simp_all
    ·exact .inl (by rw[if_neg j]))
   (λy b q=>by
    by_cases j:γ.ω y=.dM/\y≠g
    ·rw[if_pos j]at q;cases q
    ·rw[if_neg j]at q ⊢;exact v.oq y b q)
  have S:eI (λy=>if γ.ω y=.dM/\y≠g then γ.h y+(G.map th).foldl max 0 else γ.h y) G:=by
   intro p m;have hle:=mx (G.map th) 0 p.2 (.inr (cJ m));dsimp only;split
   ·omega
   ·rename_i j;rcases CW p m with h|h
    ·exact h
    ·exact absurd ⟨h.1.1,h.2⟩ j
  have A:(λy=>if γ.ω y=.dM/\y≠g then γ.h y+(G.map th).foldl max 0 else γ.h y) g=γ.h g:=by simp
  have H:pY (λy=>if γ.ω y=.dM/\y≠g then γ.h y+(G.map th).foldl max 0 else γ.h y) w x (.slice (Z ⟨g,o,O⟩) n c) [g]:=by
   refine⟨_,n,c,rfl,W,DU,Y,R,CU,N,.inr ⟨g,o,B,G,rfl,C,QI,D,j,by rw[A];exact X,λh=>by rw[A];exact K h,Q,(λh=>by rw[hd]at h;cases h),λ_=>⟨rfl,S⟩⟩⟩
  exact⟨_,[g],hs,rfl,rfl,λy=>by dsimp only;split<;>omega,H,by simp,λy q=>by
    simp only[cT]at q;subst q;refine⟨?_,C,t⟩;rcases P with h|h<;>simp[h],λ_=>S,λy=>by dsimp only;split<;>simp⟩
theorem Inv.qI(R:Inv γ h0 io w0 s f w){r:Nat}{x:Row}{n c g o:Nat}{i:M Value}{G:Fp}(P:n=x.es.length)(DU:n<=c)(V:c<=maxLen)(A:0 < x.k)(CU:∀e∈x.es,e.length=x.k)(m:x.fl=I->flat x.es)
  (U:g < w.heap.size) (p:γ.ω g=.dM\/γ.ω g=.free) (d:w0.heap.size<=g\/g∈io) (QI:oZ w g) (L:fw w x.es i G) (Q:iA w g o i) (S:γ.h g<=o+n * x.k) (l:x.fz=J->γ.h g=0) (v:x.app=I->o=0/\∃T j,kJ w g T j/\j.length=c * x.k)
  (CW:∀b∈G,b.2<=γ.h b.1\/(zG γ w b.1/\b.1≠g)) (E8:x.deep=I->(g::G.map cz).Nodup/\∀b∈G,zG γ w b.1) :
  ∃a,Inv a h0 io w0 (s.newRow r x) f w/\a.sl r=.slice (Z ⟨g,o,O⟩) n c/\a.β=γ.β/\(∀y,γ.h y<=a.h y)/\∀q,q≠r->a.sl q=γ.sl q:=by
 obtain⟨pq,F,D,b1,t,B,W,C,X,K,H⟩:=R.Iw (r:=r) P DU V A CU m U p d QI L Q S l v CW E8;obtain⟨a,h2,h3,h4,h5,_,Y⟩:=D.vL (r:=r) W C X;exact⟨a,h2,h3,h4.trans b1,λy=>by rw[h5];exact B y,λq N=>by rw[Y q N,t]⟩
theorem Inv.xl(U:Inv γ h0 io w0 s f w){r:Nat}{x:Row}{n c g o:Nat}{m:M Value}{G:Fp}(R:n=x.es.length)(DU:n<=c)(X:c<=maxLen)(K:0 < x.k)(CU:∀e∈x.es,e.length=x.k)(C:x.fl=I->flat x.es)
  (W:g < w.heap.size) (D:γ.ω g=.dM\/γ.ω g=.free) (j:w0.heap.size<=g\/g∈io) (QI:oZ w g) (Q:fw w x.es m G) (S:iA w g o m) (V:γ.h g<=o+n * x.k) (A:x.fz=J->γ.h g=0) (H:x.app=I->o=0/\∃T p,kJ w g T p/\p.length=c * x.k)
  (CW:∀b∈G,b.2<=γ.h b.1\/(zG γ w b.1/\b.1≠g)) (E8:x.deep=I->(g::G.map cz).Nodup/\∀b∈G,zG γ w b.1) (B:γ.sl r=.slice (Z ⟨g,o,O⟩) n c) :
  ∃a,Inv a h0 io w0 (s.setRow r x) f w/\a.sl=γ.sl/\a.β=γ.β/\(∀y,γ.h y<=a.h y)/\(x.deep=J->eI a.h G)/\(∀y,a.ω y=γ.ω y\/a.ω y=.free\/a.ω y=.row r):=by
 obtain⟨pq,F,P,b1,q,L,t,N,Y,i,d⟩:=U.Iw (r:=r) R DU X K CU C W D j QI Q S V A H CW E8;rw[<- B,<- q]at t;obtain⟨a,h2,h3,h4,v,h6⟩:=P.setRow (r:=r) t N Y;exact⟨a,h2,h3.trans q,h4.trans b1,λy=>by rw[v];exact L y,λhd=>by rw[v];exact i hd,λy=>by
  rcases h6 y with h|h
  ·rw[h];rcases d y with l|l
   ·exact .inl l
   ·exact .inr (.inl l)
  ·exact .inr (.inr h)⟩
theorem mR(m:Inv γ h0 io w0 s f w){g:Nat}{b:World}{M:Own->Prop}(a:Ii g w b)(l:M (γ.ω g))(k:∀j,j < γ.h g->b.cell? ⟨g,j,O⟩=w.cell? ⟨g,j,O⟩):vG γ M w b where
 os:=a.os
 tape:=a.tape
 output:=a.output
 size:=by rw[a.size];exact aD _
 block y c d:=a.block y (λe=>d (e▸l))
 cell y j i:=by
  by_cases e:y=g
  ·subst e;exact k j i
  ·exact World.cell?_of_block (w:=w) (a.block y e)
 fR y c:=⟨by rw[a.size];exact c.1,λj=>by
  by_cases e:y=g
  ·subst e;exact a.fz j
  ·rw[World.frozen?_of_block (w:=w) (a.block y e)];exact c.2 j⟩
end
theorem Rm(p m q a:M Value)(h:a.length=m.length):cO (p++(m++q)) p.length a=p++a++q:=by
 unfold cO;simp_all
theorem jO{a b:M Value}{i:Nat}(h:i+b.length<=a.length):(cO a i b).length=a.length:=by
 unfold cO;simp
 omega
theorem Q0{g:Nat}{d b e Gs c a:Fp}(h:(g::(d++((b++(e++Gs))++c)).map cz).Nodup)(i:(a.map cz).Nodup)(hd:∀y∈(d++((b++(e++Gs))++c)).map cz,y∉a.map cz)(f:g∉a.map cz) :
  (g::(d++((b++a++Gs)++c)).map cz).Nodup:=by
 simp only[bN,cC,ba,bM,not_or]at *
 grind
section
variable {P:Program} {γ:Gh} {h0:Nat->Nat} {io:M Nat} {w0:World} {s s':St} {f:Fm} {w:World} {N:Nat} {ty:TypeId} {pos:String} {aft:Array Edge} {gd:u (Nat×Bool)} {K:Fm->World->Prop}
 {cf:Nat->M A->u (M A×M A)} {mf:Nat->Bool->M D->Int->u (M D×Int)}
theorem Jf{a:Array Value}{k:Nat}(c:a.size=k)(g:0 < k):∀m:Nat,(madeCells a (m * k)).toList=(bn m a.toList).flatten
 |0=>by simp[madeCells]
 |m+1=>by
  rw[gE,eH,<- Jf c g m]
  apply eE
  intro i;have e:∀n j,(madeCells a n).toList[j]?=if j < n then Z a[j % a.size]! else O:=by
   intro n j;simp only[madeCells,mP,Array.toList_range,List.getElem?_map];split
   ·rename_i h;simp[h]
   ·rename_i h;simp[h]
  rw[e,zu,e];simp only[eQ,c,j5];by_cases b:i < k
  ·rw[if_pos (by omega),if_pos b,Nat.mod_eq_of_lt b];simp[c,b]
  ·rw[if_neg b];by_cases d:i < m * k+k
   ·rw[if_pos d,if_pos (by omega)]
    rw[Nat.mod_eq_sub_mod (by omega)]
   ·rw[if_neg d,if_neg (by omega)]
theorem T8{w:World}{b:M D}{a:M Value}(h:fp w b a []):∀m:Nat,fw w (bn m b) (bn m a).flatten []
 |0=>by simp[fw]
 |m+1=>by
  rw[gE,gE,eH];simp only[fw];exact⟨a,_,[],[],rfl,rfl,h,T8 h m⟩
theorem afn(v:Inv γ h0 io w0 s f w){T b:TypeId}{k l:Nat}{fl:Bool}{o:M D}{x C:Operand}{y:KX}{r:Nat}{i:TypeInfo}{a:Value}(hU:P.underlying T=Z (.slice b))(hI:P.info? b=Z i)(hz:i.zero=Z a)(nz:i.size=k)(Q:i.bytes=l)(V:0 < k)(G:GG a.cells.toList o=I)(QM:o.length=k)(uy:fl=I->dV o=I)
  (q:km N x y=I) (L:km N C y=I) (d:lP cf mf s (Z r) (.make k l fl o y)=Z s') (h:∀j R F,Inv j h0 io w0 s' R F->Tr (Z r) [r] γ w j F f R->K R F):vr P N ⟨Z r,.makeSlice T x C,ty,pos,aft,gd⟩ f w K:=by
 have t:=cA v q;have B:=cA v L;simp only[lP]at d
 split at d
 ·rename_i r' n hr hn;cases hr;rw[hn]at t B;obtain⟨t,_⟩:=iH t;obtain⟨B,_⟩:=iH B
  split at d
  ·rename_i hc;obtain⟨c1,c2,c3⟩:=hc;simp only[ae]at d;subst d;have BH:(i.bytes:Int) * n<=281474976710656:=by
    rw[Q];have S:n.toNat * l<=140737488355328:=c2;have:((n.toNat * l:Nat):Int)<=140737488355328:=Int.ofNat_le.2 S;rw[Int.natCast_mul,Int.toNat_of_nonneg c1,Int.mul_comm]at this;omega
   have W:=run_make (P:=P) w T b i a hU hI hz .i64 .i64 n n c1 (Int.le_refl _) BH (by omega);have p:fp w o a.cells.toList []:=Jm _ _ G;have H:a.cells.size=k:=by rw[<- eQ,fp.length _ p,QM]
   have nT:=Jf H V n.toNat;have U:(execOp (fr f N).eval ⟨Z r,.makeSlice T x C,ty,pos,aft,gd⟩).run P w=.ok (.value (.slice (Z ⟨w.heap.size,0,O⟩) n.toNat n.toNat)) (w.alloc (.cells (bn n.toNat a.cells.toList).flatten.toArray b)):=by
    rw[nz]at W;rw[<- nT];simp[execOp,t,B,W]
   have U3:=T8 p n.toNat;have CU:∀e∈bn n.toNat o,e.length=k:=λe d=>by rw[(List.mem_replicate.1 d).2];exact QM
   have m:((bn n.toNat a.cells.toList).flatten).length=n.toNat * k:=by rw[fw.length _ U3 CU];simp
   refine Jk U λw1 hs X hB=>?_;obtain⟨j,h2,h3,h4,h5⟩:=v.newRow (γ0:=γ) (dp:=I) X hB (n:=n.toNat) (c:=n.toNat) hs U3 (by rw[<- m,aR]) (by simp) (aD _) (by simp[maxLen];omega) m V CU (λhf e d x q=>by
     have Y:=uy hf;rw[(List.mem_replicate.1 d).2]at q;simp only[dV,bw]at Y;exact Y x q) ⟨rfl,rfl,λ_=>aD _,λ_ h=>by simp at h,λ_=>by simp,λ_ h=>⟨h,rfl⟩,λ_=>.inl rfl⟩ r
   exact h j _ w1 (h2.put r (.ref r) _ (by simp only[CR,h3];exact⟨trivial,_,_,_,rfl⟩)) ⟨kC v X _,λx _=>by rw[h4],λg=>h5 g,.put⟩
  ·cases d
 ·cases d
theorem ank(hi:Inv γ h0 io w0 s f w){T:TypeId}{x v:Operand}{a b:KX}{n:Nat}(hS:pg P T=Z n)(hx:km N x a=I)(hv:km N v b=I)(Q:lP cf mf s O (.st n a b)=Z s')
  (h:∀γ' f' w',Inv γ' h0 io w0 s' f' w'->Tr O (eP s O (.st n a b)) γ w γ' w' f f'->K f' w'):vr P N ⟨O,.store T x v,ty,pos,aft,gd⟩ f w K:=by
 have sI:=cA hi hx;have hpv:=cA hi hv;have fin:∀(g o:Nat) (S:TypeId) (R:List Value),(fr f N).eval x=.pointer (Z ⟨g,o,O⟩)->kJ w g S R->((fr f N).eval v).cells.toList.length=n->o+n<=R.length->(∀q∈((fr f N).eval v).cells.toList,one q=I)->
   (execOp (fr f N).eval ⟨O,.store T x v,ty,pos,aft,gd⟩).run P w=.ok .skip (gy w g (.cells (cO R o ((fr f N).eval v).cells.toList).toArray S (0,0))):=by
  intro g o S R hp hB hl ho h1;have tn:=nZ (P:=P) (o:=o) ((fr f N).eval v).cells.toList 0 w R hB (by omega) h1;simp only[cd]at tn;have nz:((fr f N).eval v).cells.size=n:=by rw[<- eQ];exact hl
  simp[execOp,Instr.storeAt,hp,Instr.sureAddr,storeVar,run_sizeOf hS,nz,tn]
 have akt:∀{R:List C} {B:List Value},fq γ w R B->R.all C.cell=I->∀q∈B,one q=I:=by
  intro R
  induction R with
  |nil=>intro B h _;simp only[fq]at h;simp[h]
  |cons c R ih=>
   intro B h hc;simp only[fq]at h;obtain⟨v,fx,rfl,h2,h3⟩:=h;simp only[cX,ai]at hc;intro q hu;rcases aL.1 hu with rfl|hu
   ·cases c with
    |d x=>simp only[CR]at h2;obtain⟨F,h4,_⟩:=h2;exact h4.rY
    |nil k fl=>simp only[CR]at h2;rw[h2.1];rfl
    |ref r=>simp only[CR]at h2;obtain⟨_,A,n,c,rfl⟩:=h2;rfl
    |_=>simp[C.cell]at hc
   ·exact ih h3 hc.2 q hu
 simp only[lP]at Q
 split at Q
 ·rename_i U o H;rw[H]at sI;simp only[CR]at sI
  split at Q
  ·rename_i R hl
   split at Q
   ·rename_i hc;obtain⟨c1,c2,c3⟩:=hc;simp only[ae]at Q;subst Q;obtain⟨S,B,h1,h2,h3⟩:=hi.bx U R hl;obtain⟨SZ,_,_⟩:=hpv.cells c1;have hlen:=SZ.length;refine LK (fin _ _ _ _ sI h1 (by rw[hlen];exact c2) (by rw[h2.length];exact c3) (akt SZ c1)) ?_;have W:=Ii.gy w (γ.β U) (cO B o ((fr f N).eval v).cells.toList).toArray S;have nR:vG γ (λo=>∃i∈[U],o=.box i\/o=.row i) w _:=mR hi W ⟨U,by simp,.inl h3⟩ (λj V=>by rw[hi.oq _ _ h3]at V;omega);have adG:Inv γ h0 io w0 {s with bx:=ti s.bx U } f w:=hi.sub (λ_ _ h=>h) (λd c h=>by
     simp only[eK]at h
     split at h
     ·cases h
     ·exact h) (λ_ _ h=>h)
    have h5:=adG.Sa (mR adG W (M:=λo=>o=.box U) h3 (λj V=>by rw[hi.oq _ _ h3]at V;omega)) (by simp) (λb H=>by cases H;simp[eK]) (λr hr=>by cases hr);have aiR:∀{R:List C} {us:List Value},fq γ w R us->fq γ (gy w (γ.β U) (.cells (cO B o ((fr f N).eval v).cells.toList).toArray S (0,0))) R us:=λh=>h.mono (γ':=γ) (λ_=>aD _) nR.cell rfl rfl _;have h6:=h5.fY (b:=U) (h1.iq S _) h3 (aiR (h2.yv o SZ));have e:({s with bx:=ti s.bx U }:St).fY U (gG R o (fW s b).cells)=s.fY U (gG R o (fW s b).cells):=by
     have:ti (ti s.bx U) U=ti s.bx U:=by simp[ti,n7]
     simp[St.fY,this]
    rw[e]at h6;refine h γ f _ h6 ⟨?_,λ_ _=>rfl,λ_=>aD _,.skip⟩;simp only[eP,H];exact nR
   ·cases Q
  ·cases Q
 ·rename_i r k i o H;rw[H]at sI;simp only[CR]at sI;obtain⟨g,p,m,cc,xu,hp⟩:=sI
  split at Q
  ·rename_i ds dp s1 hem;obtain⟨vl,qw⟩:=v8 hem;obtain⟨SZ,_,_⟩:=hpv.cells vl;obtain⟨pq,G1,i1,r1,e1⟩:=Ac _ hi SZ hem
   split at Q
   ·rename_i row hl
    split at Q
    ·rename_i e Kg
     split at Q
     ·rename_i hc;obtain⟨rfl,yL,rI,NK,hon,uy,hdd⟩:=hc;simp only[ae]at Q;subst Q;rw[ef]at Kg;obtain⟨mB,A,n',c',i2,b2,AZ,ou,o2,l2,q1,q2,q3,q4,q5,q6,q7,q8⟩:=i1.uX hl;rw[e1.sl,xu]at q1;simp only[Value.slice.injEq]at q1;obtain⟨rfl,rfl,rfl⟩:=q1;rcases q8 with ⟨q8,_⟩|⟨g',p',X,G,a1,a2,a3,a4,a5,a6,a7,a8,a9,vh,Wg,a12⟩
      ·cases q8
      ·simp only[ae,Addr.mk.injEq,and_true]at a1;obtain⟨rfl,rfl⟩:=a1;obtain⟨rfl,S,B,hB,wz⟩:=vh rI;have CV:pq.h g=0:=a9 yL;have aeM:=(bq.1 Kg).1;have BJ:=q6 e (dS Kg);have hul:=SZ.length;have hus:((fr f N).eval v).cells.toList.length=n:=by rw[hul,<- qw];exact NK
       have hik:i * row.k+row.k<=row.es.length * row.k:=by rw[<- j5];exact fJ _ aeM
       have hck:row.es.length * row.k<=cc * row.k:=fJ _ (by omega);refine LK (fin _ _ _ _ hp hB hus (by omega) (akt SZ vl)) ?_;have W:=Ii.gy w g (cO B (0+i * row.k+o) ((fr f N).eval v).cells.toList).toArray S;have IW:γ.ω g=.row r:=by
        rcases e1.own g with h|h|h
        ·rw[<- h];exact a3
        ·rw[a3]at h;cases h
        ·rw[a3]at h;cases h
       have am6:γ.h g=0:=by have:=e1.h g;omega
       have nR:vG γ (λo=>∃i∈r::rowsOf (fW s b).cells,o=.box i\/o=.row i) w _:=mR hi W ⟨r,by simp,.inr IW⟩ (λj V=>by rw[am6]at V;omega);have h5:=i2.Sa (mR i2 W (M:=λo=>o=.dM) a4 (λj V=>by rw[ou,CV]at V;omega)) (by simp) (λb H=>by cases H) (λr hr=>by cases hr);have e0:row.es=row.es.take i++(e::row.es.drop (i+1)):=by
        rw[<- (bq.1 Kg).2,List.getElem_cons_drop,bI]
       have a6':=a6;rw[e0]at a6';obtain⟨x1,x2,Ga,Gb,ex,eG,ra,rb⟩:=fw.fX _ a6';simp only[fw]at rb;obtain⟨xe,x3,Ge,Gc,ex2,eG2,re,rc⟩:=rb;subst ex2 eG2;have As:x1.length=i * row.k:=by
        rw[fw.length _ ra (λx hx=>q6 x (cr hx)),aY,cE (by omega)]
       have hle:xe.length=row.k:=by rw[fp.length _ re];exact BJ
       have e2:e=e.take o++((e.drop o).take n++e.drop (o+n)):=by
        rw[<- oP,bI,bI]
       have re':=re;rw[e2]at re';obtain⟨xa,xr,Gp,Gr,ex3,eG3,rp,rr⟩:=fp.fX _ re';obtain⟨xm,xc,Gm,Gs,ex4,eG4,rm,rs⟩:=fp.fX _ rr;subst ex3 eG3 ex4 eG4;have hla:xa.length=o:=by rw[fp.length _ rp,aY,BJ,cE (by omega)]
       have hlm:xm.length=n:=by rw[fp.length _ rm,aY,dH,BJ,cE (by omega)]
       have fQ:fp w (gG e o ds) (xa++((fr f N).eval v).cells.toList++xc) (Gp++G1++Gs):=by
        unfold gG;rw[NK];exact fp.append _ (fp.append _ rp r1) rs
       have Dr:X.length<=B.length:=by rw[fw.length _ a6 q6,wz];exact hck
       have abx:B=X++B.drop X.length:=by
        have:B.take X.length=X:=by
         apply eE
         intro j;rw[cS];by_cases V:j < X.length
         ·rw[if_pos V];have h7:=a7 j X[j] (by simp[V]);rw[bo,hB.cell]at h7;rw[h7];simp[V]
         ·rw[if_neg V,jA (by omega)]
        rw[<- bI X.length B,this];simp
       have aeU:cO B (0+i * row.k+o) ((fr f N).eval v).cells.toList=(x1++((xa++((fr f N).eval v).cells.toList++xc)++x3))++B.drop X.length:=by
        have e5:B=(x1++xa)++(xm++(xc++x3++B.drop X.length)):=by
         rw[ex]at abx;rw[ex]
         simpa using abx
        have h7:=Rm (x1++xa) xm (xc++x3++B.drop X.length) ((fr f N).eval v).cells.toList (by omega);rw[<- e5]at h7;rw[show 0+i * row.k+o=(x1++xa).length from by simp[As,hla],h7];simp
       have aeN:iA (gy w g (.cells (cO B (0+i * row.k+o) ((fr f N).eval v).cells.toList).toArray S (0,0))) g 0 (x1++((xa++((fr f N).eval v).cells.toList++xc)++x3)):=by
        have h7:=(hB.iq S (cO B (0+i * row.k+o) ((fr f N).eval v).cells.toList)).QR;intro j q hu;refine h7 j q ?_;rw[aeU,dr (bq.1 hu).1];exact hu
       have hold:∀t∈Ga++((Gp++Gs)++Gc),t∈G:=by
        intro t H;rw[eG];simp only[ba]at H ⊢
        grind
       have xU:∀t∈Ga++((Gp++G1++Gs)++Gc),t∈G\/t∈G1:=by
        intro t H;simp only[ba]at H;by_cases Y:t∈G1
        ·exact .inr Y
        ·refine .inl (hold t ?_);simp only[ba]
         grind
       have QH:∀t∈Ga++((Gp++G1++Gs)++Gc),t.2<=mB.h t.1\/(zG mB (gy w g (.cells (cO B (0+i * row.k+o) ((fr f N).eval v).cells.toList).toArray S (0,0))) t.1/\t.1≠g):=by
        intro t H;rcases xU t H with Y|Y
        ·rcases Wg t Y with L|⟨L,Mx⟩
         ·exact .inl (by rw[ou];exact L)
         ·exact .inr ⟨⟨L.1,L.2.1,by rw[gh];exact L.2.2.1,λj=>by rw[World.frozen?_of_block (w:=w) (W.block _ Mx)];exact L.2.2.2 j⟩,Mx⟩
        ·rcases e1.some_ t Y with L|L
         ·exact .inl (by rw[ou];exact L)
         ·have Mx:t.1≠g:=λe=>by have:=L.1;rw[e,a3]at this;cases this
          exact .inr ⟨⟨by rw[o2 _ (by rw[L.1];simp)];exact L.1,by rw[ou];exact L.2.1,by rw[gh];exact L.2.2.1,λj=>by rw[World.frozen?_of_block (w:=w) (W.block _ Mx)];exact L.2.2.2 j⟩,Mx⟩
       have U4:fw (gy w g (.cells (cO B (0+i * row.k+o) ((fr f N).eval v).cells.toList).toArray S (0,0))) (row.es.set i (gG e o ds)) (x1++((xa++((fr f N).eval v).cells.toList++xc)++x3)) (Ga++((Gp++G1++Gs)++Gc)):=by
        have h7:fw w (row.es.set i (gG e o ds)) (x1++((xa++((fr f N).eval v).cells.toList++xc)++x3)) (Ga++((Gp++G1++Gs)++Gc)):=by
         rw[List.set_eq_take_append_cons_drop,if_pos aeM];refine fw.append _ ra ?_;simp only[fw];exact⟨_,_,_,_,rfl,rfl,fQ,rc⟩
        refine h7.dF _ λt H j V=>?_;by_cases Y:t.1=g
        ·rcases QH t H with L|L
         ·rw[Y,ou,CV]at L;omega
         ·exact absurd Y L.2
        ·exact World.cell?_of_block (w:=w) (W.block _ Y)
       obtain⟨Ul,h6,h7,Y,L,_,_⟩:=h5.xl (r:=r) (x:={row with es:=row.es.set i (gG e o ds) }) (n:=m) (c:=cc) (g:=g) (o:=0) (by simp[q2]) q3 q4 q5
        (λy hy=>by
         rcases gL hy with h|h
         ·exact q6 y h
         ·rw[h];unfold gG;simp[BJ];omega)
        (λhf y hy=>by
         rcases gL hy with h|h
         ·exact q7 hf y h
         ·rw[h];intro l hz;unfold gG at hz;simp only[ba]at hz;rcases hz with (hz|hz)|hz
          ·exact q7 hf e (dS Kg) l (cr hz)
          ·have:=uy hf;simp only[dV,bw]at this;exact this l hz
          ·exact q7 hf e (dS Kg) l (fc hz))
        (by rw[gh];exact a2) (.inl a4) (by have:=(i2.own g (by rw[a4];simp)).2;exact this) ⟨by rw[gh];omega,W.fz⟩ U4 aeN (by rw[ou,CV];omega) (λ_=>by rw[ou,CV]) (λ_=>⟨rfl,S,_,hB.iq S _,by rw[jO (by omega)];exact wz⟩)
        QH
        (λhd=>by
         have hdp:dp=I:=by
          have hd':row.deep=I:=hd
          simpa [hd'] using hdd
         obtain⟨n1,l1⟩:=e1.deep hdp;obtain⟨n2,HS⟩:=a12 hd;refine⟨?_,λt H=>?_⟩
         ·have adF:∀y∈G.map cz,y∉G1.map cz:=by
           intro y hy hy1;obtain⟨t,H,rfl⟩:=cj.1 hy;obtain⟨be1,BH,e8⟩:=cj.1 hy1;have u1:=(HS t H).2;have u2:=(l1 be1 BH).1.1;rw[e8,u1]at u2;cases u2
          have hg1:g∉G1.map cz:=by
           intro hy1;obtain⟨be1,BH,e8⟩:=cj.1 hy1;have u2:=(l1 be1 BH).1.1;rw[e8,a3]at u2;cases u2
          rw[eG]at n2 adF;exact Q0 n2 n1 adF hg1
         ·rcases QH t H with Mx|Mx
          ·rcases xU t H with UO|UO
           ·have:=(HS t UO).1;rcases Wg t UO with jP|jP
            ·refine⟨this.1,this.2.1,?_⟩;have gW:t.1≠g:=λe9=>by
              have:=(cC.1 n2).1;exact this (by rw[<- e9];exact cJ UO)
             exact⟨by rw[gh];exact this.2.2.1,λj=>by rw[World.frozen?_of_block (w:=w) (W.block _ gW)];exact this.2.2.2 j⟩
            ·exact⟨this.1,this.2.1,by rw[gh];exact this.2.2.1,λj=>by rw[World.frozen?_of_block (w:=w) (W.block _ jP.2)];exact this.2.2.2 j⟩
           ·have jP:=(l1 t UO).1;have gW:t.1≠g:=λe=>by have:=jP.1;rw[e,a3]at this;cases this
            exact⟨by rw[o2 _ (by rw[jP.1];simp)];exact jP.1,by rw[ou];exact jP.2.1,by rw[gh];exact jP.2.2.1,λj=>by rw[World.frozen?_of_block (w:=w) (W.block _ gW)];exact jP.2.2.2 j⟩
          ·exact Mx.1)
        (by rw[AZ,e1.sl];exact xu)
       have e6:(s1.dd r).setRow r {row with es:=row.es.set i (gG e o ds) }=s1.setRow r {row with es:=row.es.set i (gG e o ds) }:=by
        have:ti (ti s1.rw r) r=ti s1.rw r:=by simp[ti,n7]
        simp[St.setRow,St.dd,this]
       rw[e6]at h6;refine h Ul f _ h6 ⟨?_,λ_ _=>by rw[Y,b2,e1.β],λy=>by have:=L y;rw[ou]at this;exact aG (e1.h y) this,.skip⟩;simp only[eP,H];exact nR
     ·cases Q
    ·cases Q
   ·cases Q
  ·cases Q
 ·cases Q
end
end
section
open Go.RowKit
section
variable {P:Program} {γ:Gh} {h0:Nat->Nat} {io:M Nat} {w0:World} {s s':St} {f:Fm} {w:World} {N:Nat} {ty:TypeId} {pos:String} {aft:Array Edge} {gd:u (Nat×Bool)} {K:Fm->World->Prop}
 {cf:Nat->M A->u (M A×M A)} {mf:Nat->Bool->M D->Int->u (M D×Int)}
theorem Es(Q:Inv γ h0 io w0 s f w){c:C}{a:Value}(r:CR γ w c a){k:Nat}{fl:Bool}{es:M (M D)}{dp:Bool}{V:St}(i:nI s k fl c=Z (es,dp,V)) :
  ∃p G l,Inv p h0 io w0 V f w/\fw w es l G/\Emb γ w dp G p/\(∀e∈es,e.length=k)/\(fl=I->flat es)/\((es.length=0/\∃A c,a=.slice A 0 c)\/∃b o c,a=.slice (Z ⟨b,o,O⟩) es.length c/\iA w b o l):=by
 cases c with
 |d x=>
  cases x with
  |list k' vk jJ=>
   simp only[nI]at i
   split at i
   ·rename_i T;obtain⟨rfl,rfl⟩:=T;simp only[ae,aI]at i;obtain⟨rfl,rfl,rfl⟩:=i;simp only[CR,Rp]at r;obtain⟨F,⟨A,n,c,q1,q2,q3,q4,y,q6,L,m⟩,lg⟩:=r;rcases m with ⟨m,rfl⟩|⟨h1,b,o,R,G,rfl,rfl,a2,a3⟩
    ·have:jJ=[]:=cy (by omega);subst this;exact⟨γ,[],[],Q,by simp[fw],⟨rfl,rfl,λ_=>aD _,λ_ h=>by simp at h,λ_=>by simp,λ_ h=>⟨h,rfl⟩,λ_=>.inl rfl⟩,L,y,.inl ⟨rfl,A,c,by rw[q1,m]⟩⟩
    ·refine⟨γ,G,R,Q,a2,⟨rfl,rfl,λ_=>aD _,λv t=>.inl (lg v (by simp[t])),λj=>?_,λ_ h=>⟨h,rfl⟩,λ_=>.inl rfl⟩,L,y,.inr ⟨b,o,c,by rw[q1,q2],a3⟩⟩;have:G=[]:=a2.plain (y j);subst this;simp
   ·cases i
  |_=>simp[nI]at i
 |nil k' vk=>
  simp only[nI,ae,aI]at i;obtain⟨rfl,rfl,rfl⟩:=i;simp only[CR]at r;exact⟨γ,[],[],Q,by simp[fw],⟨rfl,rfl,λ_=>aD _,λ_ h=>by simp at h,λ_=>by simp,λ_ h=>⟨h,rfl⟩,λ_=>.inl rfl⟩,λ_ h=>by simp at h,λ_=>jE,.inl ⟨rfl,O,0,r.1⟩⟩
 |ref q=>
  simp only[nI]at i
  split at i
  ·rename_i x hx
   split at i
   ·rename_i T;obtain⟨rfl,rfl⟩:=T;simp only[ae,aI]at i;obtain⟨rfl,rfl,rfl⟩:=i;obtain⟨p,G1,Y,b1,B,X,W,S,d1,o1,k1,U⟩:=Q.take hx;simp only[CR]at r;simp only[Rp]at W;obtain⟨A,n,c,q1,q2,q3,q4,y,q6,L,m⟩:=W;have H:∀g,γ.ω g=.dM->p.ω g=.dM/\p.h g=γ.h g:=λg hg=>by
     have:=k1 g (by rw[hg];simp);exact⟨this.1.trans hg,this.2⟩
    rcases m with ⟨m,rfl⟩|⟨h1,b,o,R,G,rfl,rfl,a2,a3⟩
    ·have:x.es=[]:=cy (by omega);rw[this];exact⟨p,[],[],Y,by simp[fw],⟨b1,B,X,λ_ h=>by simp at h,λ_=>by simp,H,U⟩,λ_ h=>by simp at h,λ_=>jE,.inl ⟨rfl,A,c,by rw[r.1,q1,m]⟩⟩
    ·refine⟨p,G,R,Y,a2,⟨b1,B,X,λv t=>?_,λj=>?_,H,U⟩,L,y,.inr ⟨b,o,c,by rw[r.1,q1,q2],a3⟩⟩
     ·cases hd:(x.deep && !x.fz) with
      |true=>exact .inr ((d1 hd).2 v (by simp[t]))
      |false=>exact .inl (S hd v (by simp[t]))
     ·rw[da]at j;rcases j with j|j
      ·obtain⟨n1,l1⟩:=d1 j;refine⟨(cC.1 n1).2,λv t=>⟨l1 v (by simp[t]),?_⟩⟩;rcases o1 v (by simp[t]) with h|h
       ·rw[h];simp
       ·simp[h]at j
      ·have:G=[]:=a2.plain (y j);subst this;simp
   ·cases i
  ·cases i
 |_=>simp[nI]at i
theorem Jb{a:Type}(l:M (Nat×a))(r:Nat):ti (ti l r) r=ti l r:=by simp[ti,n7]
theorem jC(s:St)(r:Nat)(x:Row):(s.dd r).newRow r x=s.newRow r x:=by
 simp[St.newRow,St.setRow,St.dd,St.kill,Jb]
theorem ajU(hi:Inv γ h0 io w0 s f w){T p:TypeId}{k by_:Nat}{fl:Bool}{x y:Operand}{a b:KX}{d:Nat}{i:TypeInfo}{l:Value}(hU:P.underlying T=Z (.slice p))(hI:P.info? p=Z i)(hz:i.zero=Z l)(nz:i.size=k)(hby:i.bytes=by_)(Mz:l.cells.size=k)(qd:0 < k)
  (hx:km N x a=I) (hy:km N y b=I) (F:lP cf mf s (Z d) (.app k by_ fl a b)=Z s') (h:∀C f' R,Inv C h0 io w0 s' f' R->Tr (Z d) (eP s (Z d) (.app k by_ fl a b)) γ w C R f f'->K f' R) :
  vr P N ⟨Z d,.call {callee:=.builtin .append,args:=#[x,y],argTypes:=#[T,T] },ty,pos,aft,gd⟩ f w K:=by
 have sI:=cA hi hx;have hpy:=cA hi hy;simp only[lP]at F
 split at F
 ·cases F
 ·rename_i es dp s1 uz;obtain⟨pq,G2,q,i1,r2,Q,hk2,hf2,V⟩:=Es hi hpy uz;have UX:q.length=es.length * k:=fw.length es r2 hk2;have zy:=r2.rY;have mH:∀{v' R},(Builtin.append_ #[T,T] ty #[(fr f N).eval x,(fr f N).eval y]).run P w=.ok v' R->(execOp (fr f N).eval ⟨Z d,.call {callee:=.builtin .append,args:=#[x,y],argTypes:=#[T,T] },ty,pos,aft,gd⟩).run P w=.ok (.value v') R:=by
   intro v' R hr;simp[execOp,resolve,invoke,builtin,hr]
  split at F
  ·
   rename_i k' vk Kq;rw[Kq]at sI;simp only[CR]at sI
   split at F
   ·rename_i hc;obtain⟨rfl,rfl,c3,c4⟩:=hc;simp only[ae]at F;subst F;obtain⟨v',R,hr,Dq⟩:=LY (P:=P) (w:=w) (ty:=ty) (k:=k') (by_:=by_) hU hI hz nz hby Mz qd (v:=(fr f N).eval x) (n:=0) (xs:=[]) (by simp) (.inl ⟨sI.1,rfl⟩) (u:=(fr f N).eval y) (m:=es.length) UX V zy (by omega) (by simpa using c3);refine wT (mH hr) ?_;rcases Dq with ⟨Y,rfl,rfl⟩|⟨g,U,T',L,Y,_⟩|⟨U,cs,rfl,h2,h3,h4,W,h6,h7,h8⟩
    ·have yn:es=[]:=cy Y;subst yn;have hR:pY pq.h R ⟨[],k',vk,dp,I,J⟩ ((fr f N).eval x) []:=⟨O,0,0,sI.1,rfl,aD _,by simp[maxLen],qd,λ_ h=>by simp at h,λ_=>jE,.inl ⟨rfl,rfl,rfl⟩⟩
     obtain⟨C,S,j2,j3,j4,_⟩:=i1.vL (r:=d) hR (by simp) (λ_ h=>by simp at h);exact h C _ R (S.put d (.ref d) _ (by simp only[CR,j2];exact⟨trivial,O,0,0,sI.1⟩)) ⟨vG.refl _ _ _,λx _=>by rw[j3,Q.β],λg=>by rw[j4];exact Q.h g,.put⟩
    ·rw[sI.1]at Y;cases Y
    ·simp only[bo,av]at h2 h8 ⊢;obtain⟨C,S,j2,j3,j4⟩:=i1.newRow W h6 (n:=es.length) (c:=U) h4 r2 h8 rfl h2 h3 h7 qd hk2 hf2 Q d;exact h C _ R (S.put d (.ref d) _ (by simp only[CR,j2];exact⟨trivial,_,_,_,rfl⟩)) ⟨kC hi W _,λx _=>by rw[j3,Q.β],λg=>aG (Q.h g) (j4 g),.put⟩
   ·cases F
  ·rename_i r Kq;rw[Kq]at sI;simp only[CR]at sI
   split at F
   ·rename_i row hl
    split at F
    ·rename_i hc;obtain⟨rfl,rfl,rI,c3,c4⟩:=hc;simp only[ae]at F;subst F;obtain⟨mB,A,n,c,i2,b2,AZ,X,o2,l2,q1,q2,q3,q4,q5,q6,q7,q8⟩:=i1.uX hl;rw[Q.sl]at q1;have qS:(fr f N).eval x=.slice A n c:=sI.1.trans q1;have hrX:r∈eP s (Z d) (.app row.k by_ row.fl a b):=by simp[eP,Kq,rowsOf]
     have CU:∀e∈row.es++es,e.length=row.k:=λe F=>by
      rcases ba.1 F with F|F
      ·exact q6 e F
      ·exact hk2 e F
     have hff:row.fl=I->flat (row.es++es):=λhf e F=>by
      rcases ba.1 F with F|F
      ·exact q7 hf e F
      ·exact hf2 hf e F
     have QS:∀g,zG pq w g->zG mB w g:=λg hg=>⟨by rw[o2 _ (by rw[hg.1];simp)];exact hg.1,by rw[X];exact hg.2.1,hg.2.2⟩
     rcases q8 with ⟨rfl,rfl⟩|⟨g,o,xs,G,rfl,a2,a3,a4,a5,a6,a7,a8,a9,vh,Wg,a12⟩
     ·
      have Fc:n=0:=by omega
      subst Fc;have hre:row.es=[]:=cy q2.symm;obtain⟨v',R,hr,Dq⟩:=LY (P:=P) (w:=w) (ty:=ty) (k:=row.k) (by_:=by_) hU hI hz nz hby Mz qd (v:=(fr f N).eval x) (n:=0) (xs:=[]) (by simp) (.inl ⟨qS,rfl⟩) (u:=(fr f N).eval y) (m:=es.length) UX V zy (by omega) (by rw[hre]at c3;simpa using c3);refine wT (mH hr) ?_;rcases Dq with ⟨Y,rfl,rfl⟩|⟨g,U,T',L,Y,_⟩|⟨U,cs,rfl,h2,h3,h4,W,h6,h7,h8⟩
      ·have yn:es=[]:=cy Y;subst yn;have hR:pY mB.h R {row with es:=row.es++[],deep:=row.deep && dp } ((fr f N).eval x) []:=⟨O,0,0,qS,by simp[hre],aD _,by simp[maxLen],q5,CU,hff,.inl ⟨rfl,rfl,rfl⟩⟩
       obtain⟨C,S,j2,j3,j4,_⟩:=i2.vL (r:=r) hR (by simp) (λ_ h=>by simp at h);rw[jC]at S;exact h C _ R (S.put d (.ref r) _ (by simp only[CR,j2];exact⟨trivial,O,0,0,qS⟩)) ⟨vG.refl _ _ _,λx _=>by rw[j3,b2,Q.β],λg=>by rw[j4,X];exact Q.h g,.put⟩
      ·rw[qS]at Y;cases Y
      ·simp only[bo,av]at h2 h8 ⊢;have i3:=i2.Bi W;have ic:iA R w.heap.size 0 q:=by
        intro j u V;rw[bo,h6.cell];rw[<- h8,cS]at V
        split at V
        ·exact V
        ·cases V
       have dR:=fw.lt es r2;obtain⟨C,S,j2,j3,j4,_⟩:=i3.qI (r:=r) (x:={row with es:=row.es++es,deep:=row.deep && dp }) (n:=es.length) (c:=U) (g:=w.heap.size) (o:=0) (by simp[hre]) h2 h3 q5 CU hff (by omega) (.inr (i2.tf (aD _))) (.inl hi.size) ⟨by omega,W.H0 _ (aD _)⟩ (by simp only[hre,av];exact r2.Bi W) ic (by rw[i2.fQ _ (aD _)];omega) (λ_=>i2.fQ _ (aD _)) (λ_=>⟨rfl,p,cs,h6,h7⟩)
        (λt B=>by
         rcases Q.some_ t B with H|H
         ·exact .inl (by rw[X];exact H)
         ·have:=QS _ H;exact .inr ⟨⟨this.1,this.2.1,(kC hi W (λ_=>False)).fR _ this.2.2⟩,by have:=dR t B;omega⟩)
        (λhd=>by
         have hdp:dp=I:=by
          have hd':(row.deep && dp)=I:=hd;simp at hd';exact hd'.2
         obtain⟨n1,l1⟩:=Q.deep hdp;refine⟨cC.2 ⟨λhm=>?_,n1⟩,λt B=>?_⟩
         ·obtain⟨t,B,e⟩:=cj.1 hm;have:=dR t B;omega
         ·have:=QS _ (l1 t B).1;exact⟨this.1,this.2.1,(kC hi W (λ_=>False)).fR _ this.2.2⟩)
       rw[jC]at S;exact h C _ R (S.put d (.ref r) _ (by simp only[CR,j2];exact⟨trivial,_,_,_,rfl⟩)) ⟨kC hi W _,λx _=>by rw[j3,b2,Q.β],λg=>by have:=j4 g;rw[X]at this;exact aG (Q.h g) this,.put⟩
     ·obtain⟨rfl,T',vs,hB,wz⟩:=vh rI;have Dr:xs.length=n * row.k:=by rw[fw.length _ a6 q6,q2]
      have Wu:vs.take (n * row.k)=xs:=by
       rw[<- Dr]
       apply eE
       intro j;rw[cS];by_cases hj:j < xs.length
       ·rw[if_pos hj];have h7:=a7 j xs[j] (by simp[hj]);rw[bo,hB.cell]at h7;rw[h7];simp[hj]
       ·rw[if_neg hj,jA (by omega)]
      have apl:=fw.lt _ a6;have aiQ:=fw.lt _ r2;obtain⟨v',R,hr,Dq⟩:=LY (P:=P) (w:=w) (ty:=ty) (k:=row.k) (by_:=by_) hU hI hz nz hby Mz qd (v:=(fr f N).eval x) (n:=n) (xs:=xs) Dr (.inr ⟨g,c,T',vs,qS,hB,q3,q4,wz,Wu⟩) (u:=(fr f N).eval y) (m:=es.length) UX V zy (by omega) (by rw[q2];exact c3);have IW:γ.ω g=.row r:=by
       rcases Q.own g with h|h|h
       ·rw[<- h];exact a3
       ·rw[a3]at h;cases h
       ·rw[a3]at h;cases h
      have hrE:fw w (row.es++es) (xs++q) (G++G2):=fw.append _ a6 r2;have yu:∀t∈G++G2,t.2<=mB.h t.1\/(zG mB w t.1/\t.1≠g):=by
       intro t B;rcases ba.1 B with B|B
       ·rw[X];exact Wg t B
       ·rcases Q.some_ t B with H|H
        ·exact .inl (by rw[X];exact H)
        ·exact .inr ⟨QS _ H,λe=>by have:=H.1;rw[e,a3]at this;cases this⟩
      have zV:(row.deep && dp)=I->(g::(G++G2).map cz).Nodup/\∀t∈G++G2,zG mB w t.1:=by
       intro hd;rw[ai]at hd;obtain⟨n1,l1⟩:=Q.deep hd.2;obtain⟨n2,HS⟩:=a12 hd.1;refine⟨?_,λt B=>?_⟩
       ·rw[bN,<- au,bM];refine⟨n2,n1,?_⟩;intro y hy y' My e;subst e;obtain⟨be1,BH,e8⟩:=cj.1 My;have u2:=(l1 be1 BH).1.1;rcases aL.1 hy with rfl|hy
        ·rw[e8,a3]at u2;cases u2
        ·obtain⟨t,B,rfl⟩:=cj.1 hy;rw[e8,(HS t B).2]at u2;cases u2
       ·rcases ba.1 B with B|B
        ·exact (HS t B).1
        ·exact QS _ (l1 t B).1
      refine wT (mH hr) ?_;rcases Dq with ⟨Y,rfl,rfl⟩|⟨g',U,MJ,L,Y,h2,h3,h4,W,h6,h7,rfl⟩|⟨U,cs,rfl,h2,h3,h4,W,h6,h7,h8⟩
      ·have yn:es=[]:=cy Y;subst yn;simp only[fw]at r2;obtain⟨rfl,rfl⟩:=r2;simp only[aK]at hrE yu zV CU hff;obtain⟨C,S,j2,j3,j4,_⟩:=i2.qI (r:=r) (x:={row with es:=row.es++[],deep:=row.deep && dp }) (n:=n) (c:=c) (g:=g) (o:=0) (by simp[q2]) q3 q4 q5 (by simpa using CU) (by simpa using hff) a2 (.inl a4) (i2.own g (by rw[a4];simp)).2 a5 (by simpa using hrE) a7 (by rw[X];exact a8) (λhf=>by rw[X];exact a9 hf) (λ_=>⟨rfl,T',vs,hB,wz⟩) yu zV;rw[jC]at S;exact h C _ R (S.put d (.ref r) _ (by simp only[CR,j2,qS];exact⟨trivial,_,_,_,rfl⟩)) ⟨vG.refl _ _ _,λx _=>by rw[j3,b2,Q.β],λg=>by have:=j4 g;rw[X]at this;exact aG (Q.h g) this,.put⟩
      ·rw[qS]at Y;simp only[Value.slice.injEq,ae,Addr.mk.injEq,and_true]at Y;obtain⟨rfl,_,rfl⟩:=Y;subst h3;have SZ:L=vs:=by
        unfold kJ at h2 hB;rw[hB]at h2;simp only[ae,Obj.cells.injEq,and_true]at h2;have:=h2.1
        simpa using this.symm
       subst SZ;have lF:=Ii.gy w g (cO L (n * row.k) q).toArray MJ;have BK:n * row.k+q.length<=L.length:=by rw[UX,wz,<- lu];exact fJ _ h4
       have Qz:∀j,j < n * row.k->(gy w g (.cells (cO L (n * row.k) q).toArray MJ (0,0))).cell? ⟨g,j,O⟩=w.cell? ⟨g,j,O⟩:=by
        intro j hj;rw[(hB.iq MJ (cO L (n * row.k) q)).cell,hB.cell];unfold cO;rw[bB,dr (by simp;omega),cS,if_pos hj]
       have i3:=i2.Sa (mR i2 lF (M:=λo=>o=.dM) a4 (λj hj=>Qz j (by rw[X]at hj;omega))) (by simp) (λb B=>by cases B) (λr hr=>by cases hr);have nR:vG γ (λo=>∃i∈eP s (Z d) (.app row.k by_ row.fl a b),o=.box i\/o=.row i) w _:=mR hi lF ⟨r,hrX,.inr IW⟩ (λj hj=>Qz j (by have:=Q.h g;omega));have aeQ:fw (gy w g (.cells (cO L (n * row.k) q).toArray MJ (0,0))) (row.es++es) (xs++q) (G++G2):=by
        refine hrE.dF _ λt B j hj=>?_;by_cases h8:t.1=g
        ·rw[h8];rcases yu t B with H|H
         ·rw[h8,X]at H;exact Qz j (by omega)
         ·exact absurd h8 H.2
        ·exact World.cell?_of_block (w:=w) (lF.block _ h8)
       have ic:iA (gy w g (.cells (cO L (n * row.k) q).toArray MJ (0,0))) g 0 (xs++q):=by
        have H:=(hB.iq MJ (cO L (n * row.k) q)).QR;intro j u V;refine H j u ?_;have e5:cO L (n * row.k) q=(xs++q)++L.drop (n * row.k+q.length):=by unfold cO;rw[Wu]
        rw[e5,dr (bq.1 V).1];exact V
       have Dh:∀y,oZ w y->oZ (gy w g (.cells (cO L (n * row.k) q).toArray MJ (0,0))) y:=nR.fR;obtain⟨C,S,j2,j3,j4,_⟩:=i3.qI (r:=r) (x:={row with es:=row.es++es,deep:=row.deep && dp }) (n:=n+es.length) (c:=c) (g:=g) (o:=0) (by simp[q2]) h4 q4 q5 CU hff (by rw[gh];exact a2) (.inl a4) (i2.own g (by rw[a4];simp)).2 ⟨by rw[gh];omega,lF.fz⟩ aeQ ic (by rw[X];exact aG a8 (Nat.add_le_add_left (fJ row.k (show n<=n+es.length by omega)) 0)) (λhf=>by rw[X];exact a9 hf) (λ_=>⟨rfl,MJ,_,hB.iq MJ _,by rw[jO BK];exact wz⟩)
        (λt B=>by
         rcases yu t B with H|H
         ·exact .inl H
         ·exact .inr ⟨⟨H.1.1,H.1.2.1,Dh _ H.1.2.2⟩,H.2⟩)
        (λhd=>⟨(zV hd).1,λt B=>by have:=(zV hd).2 t B;exact⟨this.1,this.2.1,Dh _ this.2.2⟩⟩)
       rw[jC]at S;exact h C _ _ (S.put d (.ref r) _ (by simp only[CR,j2];exact⟨trivial,_,_,_,rfl⟩)) ⟨nR,λx _=>by rw[j3,b2,Q.β],λg=>by have:=j4 g;rw[X]at this;exact aG (Q.h g) this,.put⟩
      ·have i3:=i2.Bi W;have ic:iA R w.heap.size 0 (xs++q):=by
        intro j u V;rw[bo,h6.cell];rw[<- h8,cS]at V
        split at V
        ·exact V
        ·cases V
       have dR:∀t∈G++G2,t.1 < w.heap.size:=fw.lt _ hrE;have Dh:=(kC hi W (λ_=>False)).fR;obtain⟨C,S,j2,j3,j4,_⟩:=i3.qI (r:=r) (x:={row with es:=row.es++es,deep:=row.deep && dp }) (n:=n+es.length) (c:=U) (g:=w.heap.size) (o:=0) (by simp[q2]) h2 h3 q5 CU hff (by omega) (.inr (i2.tf (aD _))) (.inl hi.size) ⟨by omega,W.H0 _ (aD _)⟩ (hrE.Bi W) ic (by rw[i2.fQ _ (aD _)];omega) (λ_=>i2.fQ _ (aD _)) (λ_=>⟨rfl,p,cs,h6,h7⟩)
        (λt B=>by
         rcases yu t B with H|H
         ·exact .inl H
         ·exact .inr ⟨⟨H.1.1,H.1.2.1,Dh _ H.1.2.2⟩,by have:=dR t B;omega⟩)
        (λhd=>by
         refine⟨cC.2 ⟨λhm=>?_,(cC.1 (zV hd).1).2⟩,λt B=>by have:=(zV hd).2 t B;exact⟨this.1,this.2.1,Dh _ this.2.2⟩⟩;obtain⟨t,B,e⟩:=cj.1 hm;have:=dR t B;omega)
       rw[jC]at S;exact h C _ R (S.put d (.ref r) _ (by simp only[CR,j2];exact⟨trivial,_,_,_,rfl⟩)) ⟨kC hi W _,λx _=>by rw[j3,b2,Q.β],λg=>by have:=j4 g;rw[X]at this;exact aG (Q.h g) this,.put⟩
    ·cases F
   ·cases F
  ·cases F
theorem ajX(F:Inv γ h0 io w0 s f w){T p:TypeId}{k:Nat}{x:Operand}{lo rE:u Operand}{a:KX}{b c:u KX}{d:Nat}(hU:P.underlying T=Z (.slice p))(hz:pg P p=Z k)
  (hx:km N x a=I) (Px:GB N lo b=I) (R:GB N rE c=I) (q:lP cf mf s (Z d) (.cut k a b c)=Z s') (h:∀t f' V,Inv t h0 io w0 s' f' V->Tr (Z d) (eP s (Z d) (.cut k a b c)) γ w t V f f'->K f' V) :
  vr P N ⟨Z d,.slice T x lo rE O,ty,pos,aft,gd⟩ f w K:=by
 have C:=cA F hx;simp only[lP]at q
 split at q
 ·rename_i k' fl Kq;rw[Kq]at C;simp only[CR]at C
  split at q
  ·rename_i l m hl hu
   split at q
   ·rename_i hc;obtain⟨rfl,rfl,rfl⟩:=hc;simp only[ae]at q;subst q;have hr:=Ht (w:=w) (dst:=Z d) (ty:=ty) (pos:=pos) (aft:=aft) (gd:=gd) hU (λw=>run_sizeOf hz w) C.1 (pe F Px hl) (pe F R hu) (aD _) (aD _);refine wT hr ?_;exact h γ _ w (F.put d (.nil k' fl) _ (by simp only[CR];simp[C.2])) ⟨vG.refl _ _ _,λ_ _=>rfl,λ_=>aD _,.put⟩
   ·cases q
  ·cases q
 ·rename_i r Kq;rw[Kq]at C;simp only[CR]at C
  split at q
  ·rename_i row hl
   split at q
   ·rename_i l m U aiL
    split at q
    ·rename_i hc;obtain⟨rfl,c1,c2,yL⟩:=hc;simp only[ae]at q;subst q;obtain⟨mB,A,n,c,i2,b2,AZ,L,o2,l2,q1,q2,q3,q4,q5,q6,q7,q8⟩:=F.uX hl;have qS:(fr f N).eval x=.slice A n c:=C.1.trans q1;have hr:=Ht (w:=w) (dst:=Z d) (ty:=ty) (pos:=pos) (aft:=aft) (gd:=gd) hU (λw=>run_sizeOf hz w) qS (pe F Px U) (by rw[q2];exact pe F R aiL) c1 (by omega);have B:((row.es.take m).drop l).length=m - l:=by simp;omega
     have xU:∀e∈(row.es.take m).drop l,e∈row.es:=λe q=>cr (fc q);have CU:∀e∈(row.es.take m).drop l,e.length=row.k:=λe q=>q6 e (xU e q);have S:row.fl=I->flat ((row.es.take m).drop l):=λhf e q=>q7 hf e (xU e q);refine wT hr ?_;rcases q8 with ⟨rfl,rfl⟩|⟨g,o,xs,G,rfl,a2,a3,a4,a5,a6,a7,a8,a9,vh,Wg,a12⟩
     ·have hu0:m=0:=by omega
      subst hu0;have QF:l=0:=by omega
      subst QF;have hR:pY mB.h w {row with es:=(row.es.take 0).drop 0,app:=row.app && b.isNone } (.slice O 0 0) []:=⟨O,0,0,rfl,by simp,aD _,by simp[maxLen],q5,CU,S,.inl ⟨rfl,rfl,rfl⟩⟩
      obtain⟨t,Q,j2,j3,Y,_⟩:=i2.vL (r:=r) hR (by simp) (λ_ h=>by simp at h);rw[jC]at Q;exact h t _ w (Q.put d (.ref r) _ (by simp only[CR,j2];simp)) ⟨vG.refl _ _ _,λx _=>by rw[j3,b2],λg=>by rw[Y,L];exact aD _,.put⟩
     ·rw[<- bI m row.es]at a6;obtain⟨v1,v2,F1,F2,rfl,rfl,k1,_⟩:=fw.fX _ a6;rw[<- bI l (row.es.take m)]at k1;obtain⟨u1,u2,G1,G2,rfl,rfl,m1,m2⟩:=fw.fX _ k1;have hu1:u1.length=l * row.k:=by
       rw[fw.length _ m1 (λe q=>q6 e (cr (cr q)))];simp only[aY];rw[cE (by rw[cE (by omega)];exact c1)]
      have ic:iA w g (if c=l then o else o+l * row.k) u2:=by
       intro j y hy;split
       ·rename_i pS;have:u2.length=0:=by
         rw[fw.length _ m2 CU,B,show m - l=0 by omega,sq]
        have:=(bq.1 hy).1;omega
       ·have:=a7 (l * row.k+j) y (by
         rw[bB,cY (by omega),hu1,vF,dr (bq.1 hy).1];exact hy)
        rw[show o+(l * row.k+j)=o+l * row.k+j by omega]at this;exact this
      have W:∀v∈G2,v∈G1++G2++F2:=λv H=>by simp[H]
      obtain⟨t,Q,j2,j3,Y,_⟩:=i2.qI (r:=r) (x:={row with es:=(row.es.take m).drop l,app:=row.app && b.isNone }) (n:=m - l) (c:=c - l) (g:=g) (o:=if c=l then o else o+l * row.k) B.symm (by omega) (by omega) q5 CU S a2 (.inl a4) (i2.own g (by rw[a4];simp)).2 a5 m2 ic (by rw[L,a9 yL];omega) (λ_=>by rw[L];exact a9 yL)
       (λX=>by
        simp only[ai,tt]at X;have hb0:l=0:=by
         have:=U;rw[X.2]at this;simp only[tQ,ae]at this;exact this.symm
        obtain⟨p1,p2⟩:=vh X.1;subst hb0;refine⟨by simp[p1],?_⟩
        simpa using p2)
       (λv H=>by rw[L];exact Wg v (W v H))
       (λhd=>by
        obtain⟨d1,d2⟩:=a12 hd;refine⟨?_,λv H=>(d2 v (W v H)).1⟩;rw[cC]at d1 ⊢;refine⟨λhm=>d1.1 ?_,?_⟩
        ·obtain⟨v,H,e⟩:=cj.1 hm;exact cj.2 ⟨v,W v H,e⟩
        ·have:=d1.2;rw[bN,bN,bM,bM]at this;exact this.1.2.1)
      rw[jC]at Q;have hv:(Value.slice (if c=l then Z ⟨g,o,O⟩ else (Z (⟨g,o,O⟩:Addr)).map (λi=>i.add (l * row.k))) (m - l) (c - l))=.slice (Z ⟨g,if c=l then o else o+l * row.k,O⟩) (m - l) (c - l):=by
       split<;>simp[qG]
      rw[hv];exact h t _ w (Q.put d (.ref r) _ (by simp only[CR,j2];exact⟨trivial,_,_,_,rfl⟩)) ⟨vG.refl _ _ _,λx _=>by rw[j3,b2],λg=>by have:=Y g;rw[L]at this;exact this,.put⟩
    ·cases q
   ·cases q
  ·cases q
 ·cases q
end
end
section
open Go.RowKit
def Ik(h:Nat->Nat)(w:World):RV->Value->M Nat->Prop
 | .d x,v,F=>F=[]/\∃G,Rp w x v G/\eI h G
 | .row r,v,F=>pY h w r v F/\F.Nodup
def iZ(h:Nat->Nat)(w:World):M RV->M Value->M Nat->Prop
 |[],a,F=>a=[]/\F=[]
 |r::rs,a,F=>∃v b d c,a=v::b/\F=d++c/\Ik h w r v d/\iZ h w rs b c
def AR(h:Nat->Nat)(w:World):A->Value->M Nat->Prop
 | .val b cs,v,F=>∃a,iZ h w cs a F/\(b=I->v=.agg a.toArray)/\(b=J->a=[v])
 | .box cs,v,F=>∃g T a c,v=.pointer (Z ⟨g,0,O⟩)/\kJ w g T a/\h g=0/\F=g::c/\iZ h w cs a c
def na(h:Nat->Nat)(w:World):M A->M Value->M Nat->Prop
 |[],b,F=>b=[]/\F=[]
 |a::as,b,F=>∃v c e d,b=v::c/\F=e++d/\AR h w a v e/\na h w as c d
structure CK (h:Nat->Nat) (F:List Nat) (w w':World) (h':Nat->Nat):Prop where
 os:w'.os=w.os
 tape:w'.tape=w.tape
 output:w'.output=w.output
 size:w.heap.size<=w'.heap.size
 block:∀g,g < w.heap.size->g∉F->w'.heap[g]?=w.heap[g]?
 cell:∀g j,g < w.heap.size->j < h g->w'.cell? ⟨g,j,none⟩=w.cell? ⟨g,j,none⟩
 mono:∀g,g < w.heap.size->h g<=h' g
 hold:∀g,g < w.heap.size->g∉F->h' g=h g
 fQ:∀g,w'.heap.size<=g->h' g=0
 fR:∀g,oZ w g->oZ w' g
def il:M A->M Value->M Value
 | .box _::as,v::a=>v::il as a
 | .val _ _::as,_::a=>il as a
 |_,_=>[]
def aaS(a:M Value)(v:Value):Prop:=a=[v]\/(a.length≠1/\v=.tuple a.toArray)
def xJ:String:= "internal/strconv.uint64pow10"
def R8(P:Program)(w:World)(F:M Nat):Prop:=∀g,P.globalNamed xJ=Z g->g < w.heap.size/\g∉F/\Lib.TabIs P w xJ .u64 Lib.pow10Tab
theorem R8.step{P:Program}{w d:World}{F j:M Nat}(h:R8 P w F)(m:w.heap.size<=d.heap.size)(e:∀g,g < w.heap.size->g∉F->d.heap[g]?=w.heap[g]?)(l:∀g∈j,w.heap.size<=g\/g∈F):R8 P d j:=by
 intro g f;obtain⟨a,b,c⟩:=h g f;refine⟨by omega,λk=>?_,?_⟩
 ·rcases l g k with i|i
  ·omega
  ·exact b i
 ·unfold Lib.TabIs World.var? at c ⊢;rw[f]at c ⊢;simp only[dW]at c ⊢;rw[e g a b];exact c
def WK(P:Program)(g:FuncId)(as j outs:M A)(w:World)(h:Nat->Nat)(b:M Value)(F:M Nat):Prop:=
 na h w as b F->F.Nodup->(∀g∈F,g < w.heap.size)->(∀g,w.heap.size<=g->h g=0)->
  Calls P g b.toArray w λe a=>∃v i f d c,e=.returned v/\aaS i v/\na c a j i f/\na c a outs (il as b) d/\(f++d).Nodup/\(∀g∈f++d,(w.heap.size<=g\/g∈F)/\g < a.heap.size)/\CK h F w a c
def pz(P:Program)(g:FuncId)(as b outs:M A):Prop:=
 ∀(w:World) (h:Nat->Nat) (a:M Value) (F:M Nat),R8 P w F->WK P g as b outs w h a F
def yw(a:World)(b:M Nat)(P:Program)(g:FuncId)(as d outs:M A):Prop:=
 ∀(w:World) (h:Nat->Nat) (c:M Value) (F:M Nat),a.heap.size<=w.heap.size->(∀g,g < a.heap.size->g∉b->w.heap[g]?=a.heap[g]?)->(∀g∈F,a.heap.size<=g\/g∈b)->WK P g as d outs w h c F
theorem pz.at_{P:Program}{g:FuncId}{as b outs:M A}{a:World}{c:M Nat}(h:pz P g as b outs)(e:R8 P a c):yw a c P g as b outs:=
 λw k d F j i f=>h w k d F (e.step j i f)
def hH(w:World):M D->M Value->M Fp->Prop
 |[],b,c=>b=[]/\c=[]
 |d::f,b,c=>∃v e F a,b=v::e/\c=F::a/\Rp w d v F/\hH w f e a
def WM(P:Program)(l:FuncId)(k:Bool)(i:M D)(q:Int)(f:M D)(c:Int)(w:World)(h:Nat->Nat)(v:Value)(b:M Value)(a:M Fp):Prop:=
 hH w i b a->(k=I->v=.agg b.toArray)->(k=J->b=[v])->IntKind.i64.wrap q=q->(a.flatten.map cz).Nodup->(∀G∈a,∀j∈G,h j.1=0/\oZ w j.1)->(∀g,w.heap.size<=g->h g=0)->
  Calls P l #[v,.int .i64 q] w λe d=>e=.returned (.int .i64 c)/\IntKind.i64.wrap c=c/\hH d f b a/\f.map D.plain=i.map D.plain/\CK h (a.flatten.map cz) w d h
def En(P:Program)(g:FuncId)(f:Bool)(e:M D)(q:Int)(d:M D)(c:Int):Prop:=
 ∀(w:World) (h:Nat->Nat) (v:Value) (b:M Value) (a:M Fp),R8 P w (a.flatten.map cz)->WM P g f e q d c w h v b a
def sr(a:World)(b:M Nat)(P:Program)(k:FuncId)(j:Bool)(i:M D)(q:Int)(f:M D)(e:Int):Prop:=
 ∀(w:World) (h:Nat->Nat) (v:Value) (d:M Value) (c:M Fp),a.heap.size<=w.heap.size->(∀g,g < a.heap.size->g∉b->w.heap[g]?=a.heap[g]?)->(∀g∈c.flatten.map cz,a.heap.size<=g\/g∈b)->WM P k j i q f e w h v d c
theorem En.at_{P:Program}{g:FuncId}{f:Bool}{e d:M D}{q b:Int}{a:World}{c:M Nat}(h:En P g f e q d b)(j:R8 P a c):sr a c P g f e q d b:=
 λw k v i o n m l=>h w k v i o (j.step n m l)
theorem Rg{d j i:Nat}(h:j≠i):yc d j≠yc d i:=by unfold yc;omega
section
variable {h0:Nat->Nat} {io:M Nat} {w0:World} {f:Fm} {w:World}
theorem Inv.ZH{a:Gh}{s:St}(b:Inv a h0 io w0 s f w)(d:Nat)(c:C)(i:CR a w c (f d)):Inv a h0 io w0 (s.put (Z d) c) f w:=
 {b with
  sl:=λe j h=>by
   simp only[St.put,look]at h;by_cases g:d=e
   ·subst g;simp at h;subst h;exact i
   ·rw[if_neg g]at h;exact b.sl e j h }
theorem pY.slice{h:Nat->Nat}{x:Row}{v:Value}{F:M Nat}(a:pY h w x v F):∃A n c,v=.slice A n c:=by
 obtain⟨A,n,c,b,_⟩:=a;exact⟨A,n,c,b⟩
theorem o8{d:Nat}:∀(l:M RV) {m:M Value} {F:M Nat} (j:Nat) {b:Gh} {s:St},Inv b h0 io w0 s f w->iZ b.h w l m F->F.Nodup->(∀g∈F,(b.ω g=.free\/b.ω g=.dM)/\g < w.heap.size/\(w0.heap.size<=g\/g∈io))->
  ∃a,Inv a h0 io w0 (ft d j l s).2 f w/\fq a w (ft d j l s).1 m/\a.β=b.β/\a.h=b.h/\(∀g,g∉F->a.ω g=b.ω g)/\∀q,(∀i,j<=i->q≠yc d i)->a.sl q=b.sl q
 |[],m,F,j,b,s,e,c,_,_=>by
  simp only[iZ]at c;obtain⟨rfl,rfl⟩:=c;exact⟨b,e,by simp[ft,fq],rfl,rfl,λ_ _=>rfl,λ_ _=>rfl⟩
 | .d x::l,m,F,j,b,s,e,c,p,y=>by
  simp only[iZ,Ik]at c;obtain⟨v,C,L,F2,rfl,rfl,⟨rfl,G,P,U⟩,c⟩:=c;obtain⟨a,B,c1,D,n,o,R⟩:=o8 l (j+1) e c (by simpa using p) (by simpa using y);refine⟨a,B,?_,D,n,by simpa using o,λq t=>R q (λi e=>t i (by omega))⟩;simp only[ft,fq];exact⟨v,C,rfl,by simp only[CR];exact⟨G,P,by rw[n];exact U⟩,c1⟩
 | .row x::l,m,F,j,b,s,e,c,p,y=>by
  simp only[iZ,Ik]at c;obtain⟨v,C,L,F2,rfl,rfl,⟨K,N⟩,c⟩:=c;rw[bM]at p;obtain⟨_,NV,Q⟩:=p;obtain⟨pq,B,A,D,n,o,q1⟩:=e.vL (r:=yc d j) K N (λg k=>by
   have:=y g (by simp[k]);exact⟨by rcases this.1 with h|h<;>simp[h],this.2⟩)
  obtain⟨T,i2,X,Y,W,S,H⟩:=o8 l (j+1) B (by rw[n];exact c) NV (λg k=>by
   have V:g∉L:=λh=>Q g h g k rfl;rw[o g V];exact y g (by simp[k]))
  refine⟨T,i2,?_,Y.trans D,W.trans n,λg k=>?_,λq t=>?_⟩
  ·simp only[ft,fq];refine⟨v,C,rfl,?_,X⟩;simp only[CR];rw[H (yc d j) (λi e=>Rg (by omega)),A];exact⟨rfl,K.slice⟩
  ·simp only[ba,not_or]at k;rw[S g k.2,o g k.1]
  ·rw[H q (λi e=>t i (by omega)),q1 q (t j (aD _))]
theorem uC{d:Nat}:∀(e:M RV) {n:M Value} {F:M Nat} (j:Nat) {b:Gh} {s:St},Inv b h0 io w0 s f w->iZ b.h w e n F->F.Nodup->(∀g∈F,(b.ω g=.free\/b.ω g=.dM)/\g < w.heap.size/\(w0.heap.size<=g\/g∈io))->
  ∃a,Inv a h0 io w0 (ft d j e s).2 f w/\(∀m,m.h=a.h->(∀i,j<=i->i < j+e.length->m.sl (yc d i)=a.sl (yc d i))->fq m w (ft d j e s).1 n)/\a.β=b.β/\a.h=b.h/\(∀g,g∉F->a.ω g=b.ω g)/\∀q,(∀i,j<=i->q≠yc d i)->a.sl q=b.sl q
 |[],n,F,j,b,s,k,c,_,_=>by
  simp only[iZ]at c;obtain⟨rfl,rfl⟩:=c;exact⟨b,k,λ_ _ _=>by simp[ft,fq],rfl,rfl,λ_ _=>rfl,λ_ _=>rfl⟩
 | .d x::e,n,F,j,b,s,k,c,t,A=>by
  simp only[iZ,Ik]at c;obtain⟨v,N,S,F2,rfl,rfl,⟨rfl,G,U,Y⟩,c⟩:=c;obtain⟨a,H,c1,P,o,p,W⟩:=uC e (j+1) k c (by simpa using t) (by simpa using A);refine⟨a,H,λm C B=>?_,P,o,by simpa using p,λq y=>W q (λi k=>y i (by omega))⟩;simp only[ft,fq];exact⟨v,N,rfl,by simp only[CR];exact⟨G,U,by rw[C,o];exact Y⟩,c1 m C (λi L K=>B i (by omega) (by simp;omega))⟩
 | .row x::e,n,F,j,b,s,k,c,t,A=>by
  simp only[iZ,Ik]at c;obtain⟨v,N,S,F2,rfl,rfl,⟨R,T⟩,c⟩:=c;rw[bM]at t;obtain⟨_,NV,V⟩:=t;obtain⟨pq,H,D,P,o,p,q1⟩:=k.vL (r:=yc d j) R T (λg l=>by
   have:=A g (by simp[l]);exact⟨by rcases this.1 with h|h<;>simp[h],this.2⟩)
  obtain⟨m,i2,c2,b2,L,X,Q⟩:=uC e (j+1) H (by rw[o];exact c) NV (λg l=>by
   have K:g∉S:=λh=>V g h g l rfl;rw[p g K];exact A g (by simp[l]))
  refine⟨m,i2,λUl C B=>?_,b2.trans P,L.trans o,λg l=>?_,λq y=>?_⟩
  ·simp only[ft,fq];refine⟨v,N,rfl,?_,c2 Ul C (λi L K=>B i (by omega) (by simp;omega))⟩;simp only[CR];rw[B j (aD _) (by simp),Q (yc d j) (λi k=>Rg (by omega)),D];exact⟨rfl,R.slice⟩
  ·simp only[ba,not_or]at l;rw[X g l.2,p g l.1]
  ·rw[Q q (λi k=>y i (by omega)),q1 q (y j (aD _))]
theorem iZ.length{h:Nat->Nat}:∀{b:M RV} {c:M Value} {F:M Nat},iZ h w b c F->c.length=b.length
 |[],_,_,a=>by simp only[iZ]at a;simp[a.1]
 |_::_,_,_,a=>by
  simp only[iZ]at a;obtain⟨v,d,g,e,rfl,rfl,_,a⟩:=a;simp[iZ.length a]
theorem BI{b:Gh}{a:M C}{v:Value}(h:fq b w a [v]):CR b w (a.headD .any) v:=by
 cases a with
 |nil=>simp[fq]at h
 |cons c a=>
  simp only[fq]at h;obtain⟨g,i,e,d,_⟩:=h;simp only[cl]at e;rw[e.1];exact d
theorem Fw{p:Nat}:∀(a:M RV) (j:Nat) (s:St),C.kR (900+p) (ft (p+500) j a s).1=(ft (p+500) j a s).1
 |[],j,s=>by simp[ft,C.kR]
 | .d x::a,j,s=>by simp only[ft,C.kR,C.kill,Fw a (j+1) s]
 | .row x::a,j,s=>by
  have h:yc (p+500) j≠900+p:=by unfold yc;omega
  simp only[ft,C.kR,C.kill,Fw a (j+1),if_neg h]
theorem wb:∀(as:M A) {n:M Value} {F:M Nat} (p:Nat) {e:Gh} {s:St},Inv e h0 io w0 s f w->na e.h w as n F->F.Nodup->(∀g∈F,(e.ω g=.free\/e.ω g=.dM)/\g < w.heap.size/\(w0.heap.size<=g\/g∈io))->(∀i v,n[i]?=Z v->f (p+i)=v)->
  ∃j,Inv j h0 io w0 (jW p as s) f w/\j.h=e.h/\(∀q,q < p->j.β (900+q)=e.β (900+q))/\∀i m g,as[i]?=Z (.box m)->n[i]?=Z (.pointer (Z ⟨g,0,O⟩))->j.β (900+(p+i))=g
 |[],n,F,p,e,s,B,_,_,_,_=>⟨e,B,rfl,λ_ _=>rfl,λi m g h=>by simp at h⟩
 | .val ag m::as,n,F,p,e,s,B,k,x,r,D=>by
  simp only[na,AR]at k;obtain⟨v,fx,F1,F2,rfl,rfl,⟨us,P,ha,hb⟩,k⟩:=k;rw[bM]at x;obtain⟨N,NV,K⟩:=x;obtain⟨pq,S,c1,X,t,L,_⟩:=o8 (d:=p) m 0 B P N (λg o=>r g (by simp[o]));have c:f p=v:=by simpa using D 0 v rfl
  have i2:Inv pq h0 io w0 (Bz p (.val ag m) s) f w:=by
   refine S.ZH p _ ?_;cases ag with
   |true=>
    rw[c,ha rfl];simp only[if_true,CR];exact⟨us,rfl,c1⟩
   |false=>
    rw[c];simp only[aF,if_false];rw[hb rfl]at c1;exact BI c1
  obtain⟨Q,i3,G,p3,x3⟩:=wb as (p+1) i2 (by rw[t];exact k) NV (λg o=>by
   have G:g∉F1:=λh=>K g h g o rfl;rw[L g G];exact r g (by simp[o])) (λi a V=>by rw[show p+1+i=p+(i+1) from by omega];exact D (i+1) a (by simpa using V))
  refine⟨Q,i3,G.trans t,λq hq=>by rw[p3 q (by omega),X],λi R g l H=>?_⟩;cases i with
  |zero=>simp at l
  |succ i=>
   have:=x3 i R g (by simpa using l) (by simpa using H);rw[show p+(i+1)=p+1+i from by omega];exact this
 | .box m::as,n,F,p,e,s,B,k,x,r,D=>by
  simp only[na,AR]at k;obtain⟨v,fx,F1,F2,rfl,rfl,⟨g,T,us,F',rfl,hB,CV,rfl,P⟩,k⟩:=k;rw[bM]at x;obtain⟨N,NV,K⟩:=x;obtain⟨W,Y⟩:=cC.1 N;obtain⟨pq,S,c1,X,t,L,_⟩:=o8 (d:=p+500) m 0 B P Y (λg o=>r g (by simp[o]));have c:=D 0 _ rfl;rw[cd]at c;have C:=r g (by simp);obtain⟨Q,i2,j2,k2,l2,m2,w2⟩:=S.PT (b:=900+p) hB (by rw[L g W];exact C.1) C.2.2 (by rw[t];exact CV) c1;rw[Fw]at i2;have i3:Inv Q h0 io w0 (Bz p (.box m) s) f w:=i2.ZH p (.ptr (900+p) 0) (by rw[c];simp only[CR,j2]);obtain⟨Ul,i4,h4,p4,x4⟩:=wb as (p+1) i3 (by rw[l2,t];exact k) NV (λy U=>by
   have G:y∉F':=λh=>K y (by simp[h]) y U rfl;have h5:y≠g:=λh=>K y (by simp[h]) y U rfl;rw[w2 y h5,L y G];exact r y (by simp[U])) (λi a V=>by rw[show p+1+i=p+(i+1) from by omega];exact D (i+1) a (by simpa using V))
  refine⟨Ul,i4,h4.trans (l2.trans t),λq hq=>by rw[p4 q (by omega),k2 _ (by omega),X],λi R g' l H=>?_⟩;cases i with
  |zero=>
   simp at H;rw[p4 _ (by omega),cd,j2,H]
  |succ i=>
   have:=x4 i R g' (by simpa using l) (by simpa using H);rw[show p+(i+1)=p+1+i from by omega];exact this
theorem CE{t:Gh}{s:St}(R:Inv t h0 io w0 s f w):∀(n:M C) {A:M Value} {B:M RV},fq t w n A->gB (j_ s) n=Z B->
  ∃F,iZ t.h w B A F/\(∀g∈F,∃r∈rowsOf n,t.ω g=.row r)/\((rowsOf n).Nodup->F.Nodup)
 |[],A,B,p,i=>by
  simp only[gB,ae]at i;subst i;simp only[fq]at p;subst p;exact⟨[],by simp[iZ],λ_ h=>by simp at h,λ_=>by simp⟩
 |c::n,A,B,p,i=>by
  simp only[fq]at p;obtain⟨v,N,rfl,m,T⟩:=p;simp only[gB]at i
  split at i
  ·rename_i y l;simp only[ak]at i;obtain⟨HY,i,rfl⟩:=i;obtain⟨F,L,D,K⟩:=CE R n T i;cases c with
   |d x=>
    simp only[j_,ae]at l;subst l;simp only[CR]at m;refine⟨F,?_,by simpa [rowsOf] using D,by simpa [rowsOf] using K⟩;simp only[iZ,Ik];exact⟨v,N,[],F,rfl,rfl,⟨rfl,m⟩,L⟩
   |nil k Y=>
    simp only[j_,ae]at l;subst l;simp only[CR]at m;refine⟨F,?_,by simpa [rowsOf] using D,by simpa [rowsOf] using K⟩;simp only[iZ,Ik];exact⟨v,N,[],F,rfl,rfl,⟨⟨O,0,0,m.1,rfl,aD _,by simp[maxLen],m.2,λ_ h=>by simp at h,λ_=>jE,.inl ⟨rfl,rfl,rfl⟩⟩,by simp⟩,L⟩
   |ref r=>
    simp only[j_,ak]at l;obtain⟨x,U,rfl⟩:=l;simp only[CR]at m;obtain⟨S,X,Q,P⟩:=R.rw r x U;refine⟨S++F,?_,λg o=>?_,λH=>?_⟩
    ·simp only[iZ,Ik];exact⟨v,N,S,F,rfl,rfl,⟨by rw[m.1];exact X,Q⟩,L⟩
    ·rcases ba.1 o with o|o
     ·exact⟨r,by simp[rowsOf],P g o⟩
     ·obtain⟨q,G,j⟩:=D g o;exact⟨q,by simp[rowsOf,G],j⟩
    ·simp only[rowsOf,cC]at H;rw[bM];refine⟨Q,K H.2,?_⟩;intro a W b V e;subst e;obtain⟨q,G,j⟩:=D a V;rw[P a W]at j;cases j;exact H.1 G
   |_=>simp[j_]at l
  ·cases i
end
end
section
open Go.RowKit
section
variable {h0:Nat->Nat} {io:M Nat} {w0:World} {f:Fm} {w:World}
theorem C_(s:St)(r:Nat)(x:Row):(s.dd r).setRow r x=s.setRow r x:=by
 simp[St.setRow,St.dd,Jb]
theorem Inv.share1{j:Gh}{s:St}(hi:Inv j h0 io w0 s f w){r:Nat}{x:Row}(hl:look s.rw r=Z x) :
  ∃a G,Inv a h0 io w0 (s.setRow r x.share) f w/\a.β=j.β/\a.sl=j.sl/\(∀g,j.h g<=a.h g)/\Rp w (.list x.k x.fl x.es) (j.sl r) G/\eI a.h G/\∀g,a.ω g=j.ω g\/a.ω g=.dM\/a.ω g=.free\/a.ω g=.row r:=by
 obtain⟨i,A,n,c,i2,Q,AZ,F,o2,l2,q1,q2,v,t,q,p,l,q8⟩:=hi.uX hl;have D:∀g,i.ω g=j.ω g\/i.ω g=.dM:=λg=>by
  rcases jK (j.ω g=.row r) with h|h
  ·exact .inr (l2 g h)
  ·exact .inl (o2 g h)
 rcases q8 with ⟨rfl,rfl⟩|⟨g,o,xs,G,rfl,a2,a3,a4,a5,L,a7,S,a9,vh,Wg,a12⟩
 ·have hR:pY i.h w x.share (i.sl r) []:=⟨O,n,0,by rw[AZ];exact q1,q2,v,t,q,p,l,.inl ⟨rfl,rfl,rfl⟩⟩
  obtain⟨a,W,h3,h4,h5,h6⟩:=i2.setRow (r:=r) hR (by simp) (λ_ h=>by simp at h);rw[C_]at W;refine⟨a,[],W,h4.trans Q,h3.trans AZ,λg=>by rw[h5,F];exact aD _,?_,λ_ h=>by simp at h,λg=>?_⟩
  ·simp only[Rp];exact⟨O,n,0,q1,q2,v,t,l,q,p,.inl ⟨by omega,trivial⟩⟩
  ·rcases h6 g with h|h
   ·rw[h];rcases D g with h'|h'
    ·exact .inl h'
    ·exact .inr (.inl h')
   ·exact .inr (.inr (.inr h))
 ·have i3:=i2.settle (h':=λy=>if y=g then o+n * x.k else i.h y) (ω':=i.ω) (λy=>by
    split
    ·rename_i e;subst e;rw[F];exact S
    ·exact aD _)
   (λy m=>by
    have e:y=g:=by
     rcases jK (y=g) with h|h
     ·exact h
     ·exact absurd (by simp[h]) m
    subst e;have V:=i2.own y (by rw[a4];simp);exact⟨V.1,V.2,λ_ _ _=>by rw[a4];simp,λ_ _ _=>by rw[a4];simp⟩)
   (λy=>.inl rfl)
   (λy b m=>by
    by_cases e:y=g
    ·subst e;rw[a4]at m;cases m
    ·simp only[if_neg e];exact i2.oq y b m)
  have R:∀y,y≠g->zG i w y->zG {i with h:=λy=>if y=g then o+n * x.k else i.h y,ω:=i.ω } w y:=λy m P=>⟨P.1,by simp only[if_neg m];exact P.2.1,P.2.2⟩
  obtain⟨d,i4,T,Y,U,g4,w4⟩:=i3.xl (r:=r) (x:=x.share) (n:=n) (c:=c) (g:=g) (o:=o) q2 v t q p l a2 (.inl a4) (i2.own g (by rw[a4];simp)).2 a5 L a7 (by simp only[if_true];exact aD _) (λh=>by cases h) vh
   (λK B=>by
    rcases Wg K B with h|⟨h,X⟩
    ·by_cases e:K.1=g
     ·simp only[if_pos e];rw[e]at h;exact .inl (aG h S)
     ·simp only[if_neg e];rw[F];exact .inl h
    ·exact .inr ⟨R _ X h,X⟩)
   (λH=>by
    have:G=[]:=L.plain (l H);subst this;simp)
   (by show i.sl r=_;rw[AZ];exact q1)
  rw[C_]at i4;have mono:∀y,j.h y<=d.h y:=λy=>by
   refine aG ?_ (U y);show j.h y<=if y=g then o+n * x.k else i.h y
   split
   ·rename_i e;subst e;exact S
   ·rw[F];exact aD _
  have N:o+n * x.k<=d.h g:=by
   have:=U g
   simpa using this
  have lg:eI d.h G:=by
   cases H:x.fl with
   |true=>
    have:G=[]:=L.plain (l H);subst this;exact λ_ h=>by simp at h
   |false=>exact g4 H
  have C:∀g,d.ω g=j.ω g\/d.ω g=.dM\/d.ω g=.free\/d.ω g=.row r:=λy=>by
   rcases w4 y with h|h|h
   ·rw[h];rcases D y with h'|h'
    ·exact .inl h'
    ·exact .inr (.inl h')
   ·exact .inr (.inr (.inl h))
   ·exact .inr (.inr (.inr h))
  by_cases hn:n=0
  ·refine⟨d,[],i4,Y.trans Q,T.trans AZ,mono,?_,λ_ h=>by simp at h,C⟩;simp only[Rp];exact⟨_,n,c,q1,q2,v,t,l,q,p,.inl ⟨hn,trivial⟩⟩
  ·refine⟨d,(g,o+n * x.k)::G,i4,Y.trans Q,T.trans AZ,mono,?_,λK B=>?_,C⟩
   ·simp only[Rp];exact⟨_,n,c,q1,q2,v,t,l,q,p,.inr ⟨by omega,g,o,xs,G,rfl,rfl,L,a7⟩⟩
   ·rcases aL.1 B with rfl|B
    ·exact N
    ·exact lg K B
theorem wM(s:St)(r q:Nat)(x:Row):look (s.setRow r x).rw q=if r=q then Z x else look s.rw q:=by
 simp only[St.setRow,look,eK]
 split<;>rfl
theorem Inv.Cw:∀(c:M Nat) {d:Gh} {s:St},Inv d h0 io w0 s f w->
  ∃a,Inv a h0 io w0 (eY s c) f w/\a.β=d.β/\a.sl=d.sl/\(∀g,d.h g<=a.h g)/\(∀r∈c,∀x,look s.rw r=Z x->∃G,Rp w (.list x.k x.fl x.es) (d.sl r) G/\eI a.h G)/\
   (∀g,a.ω g=d.ω g\/a.ω g=.dM\/a.ω g=.free\/∃r∈c,a.ω g=.row r)/\(eY s c).sl=s.sl/\(eY s c).bx=s.bx/\∀q,q∉c->look (eY s c).rw q=look s.rw q
 |[],d,s,m=>⟨d,m,rfl,rfl,λ_=>aD _,λ_ h=>by simp at h,λ_=>.inl rfl,rfl,rfl,λ_ _=>rfl⟩
 |r::c,d,s,m=>by
  cases j:look s.rw r with
  |none=>
   obtain⟨a,t,H,l,p,U,n,D,C,B⟩:=Inv.Cw c m;have F:eY s (r::c)=eY s c:=by simp[eY,j]
   rw[F];refine⟨a,t,H,l,p,λq b x A=>?_,λg=>?_,D,C,λq b=>B q (λh=>b (by simp[h]))⟩
   ·rcases aL.1 b with rfl|b
    ·rw[j]at A;cases A
    ·exact U q b x A
   ·rcases n g with h|h|h|⟨q,b,h⟩
    ·exact .inl h
    ·exact .inr (.inl h)
    ·exact .inr (.inr (.inl h))
    ·exact .inr (.inr (.inr ⟨q,by simp[b],h⟩))
  |some x=>
   obtain⟨X,G,t,H,l,p,o,K,n⟩:=m.share1 j;obtain⟨Q,i2,V,P,L,T,N,D,C,B⟩:=Inv.Cw c t;have F:eY s (r::c)=eY (s.setRow r x.share) c:=by simp[eY,j]
   rw[F];refine⟨Q,i2,V.trans H,P.trans l,λg=>aG (p g) (L g),λq b y v=>?_,λg=>?_,D,C,λq b=>?_⟩
   ·by_cases e:q=r
    ·subst e;rw[j]at v;cases v;exact⟨G,o,K.mono L⟩
    ·rcases aL.1 b with b|b
     ·exact absurd b e
     ·obtain⟨W,S,R⟩:=T q b y (by rw[wM,if_neg (m_ e)];exact v);exact⟨W,by rw[<- l];exact S,R⟩
   ·rcases N g with h|h|h|⟨q,b,h⟩
    ·rw[h];rcases n g with i|i|i|i
     ·exact .inl i
     ·exact .inr (.inl i)
     ·exact .inr (.inr (.inl i))
     ·exact .inr (.inr (.inr ⟨r,by simp,i⟩))
    ·exact .inr (.inl h)
    ·exact .inr (.inr (.inl h))
    ·exact .inr (.inr (.inr ⟨q,by simp[b],h⟩))
   ·simp only[aL,not_or]at b;rw[B q b.2,wM,if_neg (m_ b.1)]
theorem uS:∀(l:M Nat),kG l=I↔l.Nodup
 |[]=>by simp[kG]
 |x::l=>by simp[kG,uS l]
theorem Ui{s S:St}:∀(a:M C),(∀r∈rowsOf a,look S.rw r=look s.rw r)->gB (j_ S) a=gB (j_ s) a
 |[],_=>rfl
 |c::a,h=>by
  have b:=Ui (s:=s) (S:=S) a (λr d=>h r (by cases c<;>simp[rowsOf,d]));simp only[gB,b];cases c with
  |ref r=>simp only[j_,h r (by simp[rowsOf])]
  |_=>rfl
theorem Uh{s:St}:∀{a:M C} {b:M RV},gB (j_ s) a=Z b->a.all C.cell=I
 |[],_,_=>rfl
 |c::a,b,h=>by
  simp only[gB]at h
  split at h
  ·rename_i y e;simp only[ak]at h;obtain⟨g,h,_⟩:=h;have d:=Uh h;cases c<;>simp_all[j_,C.cell]
  ·cases h
theorem Eh{s:St}:∀{a:M C} {b:M RV},gB (ni s) a=Z b->a.all C.cell=I
 |[],_,_=>rfl
 |c::a,b,h=>by
  simp only[gB]at h
  split at h
  ·rename_i y e;simp only[ak]at h;obtain⟨g,h,_⟩:=h;have d:=Eh h;cases c<;>simp_all[ni,C.cell]
  ·cases h
theorem ZU{m p:Gh}{s:St}{q:M Nat}(t:∀g,m.h g<=p.h g)(B:∀r∈q,∀x,look s.rw r=Z x->∃G,Rp w (.list x.k x.fl x.es) (m.sl r) G/\eI p.h G) :
  ∀(i:M C) {j:M Value} {l:M RV},fq m w i j->gB (ni s) i=Z l->(∀r∈rowsOf i,r∈q)->iZ p.h w l j []
 |[],j,l,e,h,_=>by
  simp only[gB,ae]at h;subst h;simp only[fq]at e;simp[iZ,e]
 |c::i,j,l,e,h,A=>by
  simp only[fq]at e;obtain⟨v,L,rfl,b,D⟩:=e;simp only[gB]at h
  split at h
  ·rename_i y a;simp only[ak]at h;obtain⟨P,h,rfl⟩:=h;have F:=ZU t B i D h (λr K=>A r (by cases c<;>simp[rowsOf,K]));simp only[iZ];refine⟨v,L,[],[],rfl,rfl,?_,F⟩;cases c with
   |d x=>
    simp only[ni,ae]at a;subst a;simp only[CR]at b;obtain⟨G,o,n⟩:=b;exact⟨rfl,G,o,n.mono t⟩
   |nil k N=>
    simp only[ni,ae]at a;subst a;simp only[CR]at b;refine⟨rfl,[],?_,λ_ h=>by simp at h⟩;simp only[Rp];exact⟨O,0,0,b.1,rfl,aD _,by simp[maxLen],λ_=>jE,b.2,λ_ h=>by simp at h,.inl ⟨rfl,trivial⟩⟩
   |ref r=>
    simp only[ni,ak]at a;obtain⟨x,H,rfl⟩:=a;simp only[CR]at b;obtain⟨G,o,n⟩:=B r (A r (by simp[rowsOf])) x H;exact⟨rfl,G,by rw[b.1];exact o,n⟩
   |_=>simp[ni]at a
  ·cases h
theorem MP{H j:Gh}{s S:St}{ln:M Nat}(hS:Inv j h0 io w0 S f w)(hb:j.β=H.β)(xu:j.sl=H.sl)(Q:∀g,H.h g<=j.h g)(V:S.bx=s.bx)(hG:∀r∈ln,∀x,look s.rw r=Z x->∃G,Rp w (.list x.k x.fl x.es) (H.sl r) G/\eI j.h G)
  (R:∀q,q∉ln->look S.rw q=look s.rw q):∀(i:M C) {K:M Value} {as:M A},fq H w i K->A6 s i=Z as->(∀r∈jG i,r∈ln)->(∀r∈dN s i,r∉ln)->(dN s i).Nodup->(db i).Nodup->
   ∃F,na j.h w as K F/\F.Nodup/\(∀g∈F,(∃r∈dN s i,j.ω g=.row r)\/∃b∈db i,j.ω g=.box b/\g=j.β b)/\∀b∈db i,Value.pointer (Z ⟨j.β b,0,O⟩)∈il as K
 |[],K,as,U,h,_,_,_,_=>by
  simp only[A6,ae]at h;subst h;simp only[fq]at U;exact⟨[],by simp[na,U],by simp,λ_ h=>by simp at h,λ_ h=>by simp[db]at h⟩
 |c::i,K,as,U,h,hl,o,tj,L=>by
  simp only[fq]at U;obtain⟨v,fx,rfl,hv,xw⟩:=U;simp only[A6]at h
  split at h
  ·rename_i a t;simp only[ak]at h;obtain⟨Sd,h,rfl⟩:=h;simp only[jG,dN]at hl o tj;rw[bM]at tj;obtain⟨zy,NV,N⟩:=tj;have amQ:(db i).Nodup:=by
    cases c<;>simp_all[db]
   obtain⟨F2,r2,d2,l2,p2⟩:=MP hS hb xu Q V hG R i xw h (λr d=>hl r (by simp[d])) (λr d=>o r (by simp[d])) NV amQ;have Wv:CR j w c v:=hv.mono (γ':=j) Q (λ_ _ _=>rfl) hb xu c;unfold V8 at t
   split at t
   ·rename_i b
    split at t
    ·rename_i Wh X;simp only[ak]at t;obtain⟨rs,D,rfl⟩:=t;have P:tO s (.ptr b 0)=rowsOf Wh:=by simp[tO,X]
     rw[P]at o zy N;obtain⟨T,us,k1,k2,B⟩:=hS.bx b Wh (by rw[V];exact X);rw[<- Ui (S:=S) _ (λr d=>R r (o r (by simp[d])))]at D;obtain⟨F1,x1,x2,x3⟩:=CE hS _ k2 D;simp only[CR]at Wv;simp only[db,cC]at L;refine⟨(j.β b::F1)++F2,?_,?_,λg p=>?_,λY l=>?_⟩
     ·simp only[na];refine⟨v,fx,j.β b::F1,F2,rfl,rfl,?_,r2⟩;simp only[AR];exact⟨_,T,us,F1,Wv,k1,hS.oq _ b B,rfl,x1⟩
     ·rw[bM];refine⟨cC.2 ⟨λQ=>?_,x3 zy⟩,d2,?_⟩
      ·obtain⟨r,_,d⟩:=x2 _ Q;rw[B]at d;cases d
      ·intro x hx y hy e;subst e;rcases aL.1 hx with rfl|hx
       ·rcases l2 _ hy with ⟨q,hq,n⟩|⟨Y,l,n,_⟩
        ·rw[B]at n;cases n
        ·rw[B]at n;cases n;exact L.1 l
       ·obtain⟨r,d,m⟩:=x2 x hx;rcases l2 x hy with ⟨q,hq,n⟩|⟨Y,l,n,_⟩
        ·rw[m]at n;cases n;exact N _ d _ hq rfl
        ·rw[m]at n;cases n
     ·rcases ba.1 p with p|p
      ·rcases aL.1 p with rfl|p
       ·exact .inr ⟨b,by simp[db],B,rfl⟩
       ·obtain⟨r,d,m⟩:=x2 g p;exact .inl ⟨r,by simp only[dN,ba,P];exact .inl d,m⟩
      ·rcases l2 g p with ⟨r,d,m⟩|⟨Y,l,m⟩
       ·exact .inl ⟨r,by simp only[dN,ba];exact .inr d,m⟩
       ·exact .inr ⟨Y,by simp[db,l],m⟩
     ·simp only[db,aL]at l;simp only[il,aL];rcases l with rfl|l
      ·exact .inl Wv.symm
      ·exact .inr (p2 Y l)
    ·cases t
   ·rename_i YD;simp only[ak]at t;obtain⟨rs,D,rfl⟩:=t;obtain⟨k1,k2,B⟩:=hv.cells (Eh D);have x1:=ZU Q hG _ k1 D (λr d=>hl r (by simp[d]));have W:db (c::i)=db i:=by
     have vl:=Eh D;cases c<;>simp_all[db,C.cells,C.cell]
    refine⟨F2,?_,d2,λg p=>?_,λb l=>?_⟩
    ·simp only[na];refine⟨v,fx,[],F2,rfl,rfl,?_,r2⟩;simp only[AR];refine⟨_,x1,λxt=>?_,λxt=>by rw[k2 xt]⟩;obtain⟨us,rfl⟩:=B xt;simp[Value.cells]
    ·rw[W];rcases l2 g p with ⟨r,d,m⟩|m
     ·exact .inl ⟨r,by simp only[dN,ba];exact .inr d,m⟩
     ·exact .inr m
    ·rw[W]at l;simp only[il];exact p2 b l
  ·cases h
theorem M7{d a:Gh}{s:St}{n:M Nat}(q:∀g,d.h g<=a.h g)(j:a.β=d.β)(m:a.sl=d.sl)(t:∀r∈n,∀x,look s.rw r=Z x->∃G,Rp w (.list x.k x.fl x.es) (d.sl r) G/\eI a.h G) :
  ∀{l:M C} {i:M Value},(∀r∈rowsOf l,r∈n)->fq d w l i->fq a w (l.map (P8 s)) i
 |[],i,_,h=>by simpa only [bD,fq] using h
 |c::l,i,p,h=>by
  simp only[fq]at h;obtain⟨v,H,rfl,b,B⟩:=h;simp only[aW,fq];refine⟨v,H,rfl,?_,M7 q j m t (λr o=>p r (by cases c<;>simp_all[rowsOf])) B⟩;have y:CR a w c v:=CR.mono q (λ_ _ _=>rfl) j m c b;cases c with
  |ref r=>
   simp only[P8];split
   ·rename_i x o;obtain⟨G,F,D⟩:=t r (p r (by simp[rowsOf])) x o;simp only[CR]at b ⊢;rw[b.1];exact⟨G,F,D⟩
   ·exact y
  |nil k K=>
   simp only[CR]at b;simp only[P8,CR];exact⟨[],by simp only[Rp];exact⟨O,0,0,b.1,rfl,aD _,by simp[maxLen],λ_=>jE,b.2,λe A=>by simp at A,.inl ⟨rfl,trivial⟩⟩,λL j=>by simp at j⟩
  |_=>exact y
theorem Inv.uk{l:Gh}{s B:St}{d:Nat}(h:Inv l h0 io w0 s f w)(g:Proofs.YtnnjajingjfjiaaGreatDoor.uk s d=Z B):∃a,Inv a h0 io w0 B f w/\a.β=l.β:=by
 unfold Proofs.YtnnjajingjfjiaaGreatDoor.uk at g
 split at g
 ·rename_i r j
  split at g
  ·rename_i x p;cases g;obtain⟨a,o,n,A,C,q,_⟩:=h.Cw [r];obtain⟨G,K,H⟩:=q r (by simp) x p;have c:=h.get d;rw[j]at c;simp only[CR]at c;exact⟨a,o.ZH d _ (by simp only[CR];rw[c.1];exact⟨G,K,H⟩),n⟩
  ·cases g
 ·rename_i k R j;cases g;have c:=h.get d;rw[j]at c;simp only[CR]at c;exact⟨l,h.ZH d _ (by simp only[CR];exact⟨[],by simp only[Rp];exact⟨O,0,0,c.1,rfl,aD _,by simp[maxLen],λ_=>jE,c.2,λe m=>by simp at m,.inl ⟨rfl,trivial⟩⟩,λS F=>by simp at F⟩),rfl⟩
 ·rename_i b j
  split at g
  ·rename_i v p;cases g;obtain⟨T,D,hB,N,Q⟩:=h.bx b v p;obtain⟨a,o,n,A,C,q,_,_,t,_⟩:=h.Cw (rowsOf v);obtain⟨U,P,i,L,y⟩:=o.bx b v (by rw[t];exact p);have c:P=D:=by
    rw[n]at i;have m:=ey (i.symm.trans hB)
    injection m with m
    simpa using congrArg Array.toList m
   exact⟨a,o.fY i y (c▸M7 C n A q (λr j=>j) N),n⟩
  ·cases g;exact⟨l,h,rfl⟩
 ·cases g;exact⟨l,h,rfl⟩
end
end
section
open Go.RowKit
section
variable {h0:Nat->Nat} {io:M Nat} {w0:World} {f:Fm} {w:World}
theorem Inv.after{c:Gh}{s:St}(n:Inv c h0 io w0 s f w){C h':Nat->Nat}{F mv bs:M Nat}{v:World}(l:CK C F w v h')(H:∀g,c.h g<=C g)(N:∀g∈F,(∃r∈mv,c.ω g=.row r)\/∃b∈bs,c.ω g=.box b)(Q:∀r∈mv,look s.rw r=O)(S:∀b∈bs,look s.bx b=O)
  (X:∀g∈F,∀b,c.ω g=.box b->h' g=0) :
  vG c (λo=>(∃r∈mv,o=.row r)\/∃b∈bs,o=.box b) w v/\
  ∃d,Inv d h0 io w0 s f v/\d.β=c.β/\d.sl=c.sl/\(∀g,c.h g<=d.h g)/\(∀g,g < w.heap.size->g∉F->d.h g=c.h g)/\(∀g,w.heap.size<=g\/g∈F->d.h g=h' g)/\(∀g∈F,(∃r∈mv,c.ω g=.row r)->d.ω g=.dM)/\(∀g b,c.ω g=.box b->d.ω g=.box b)/\(∀g,w.heap.size<=g->d.ω g=.free):=by
 have t:∀g∈F,(∃r∈mv,c.ω g=.row r)\/∃b∈bs,c.ω g=.box b:=N;have P:vG c (λo=>(∃r∈mv,o=.row r)\/∃b∈bs,o=.box b) w v:={
  os:=l.os,tape:=l.tape,output:=l.output,size:=l.size
  block:=λg a R=>l.block g a (λy=>R (t g y))
  cell:=λg j U=>by
   have a:g < w.heap.size:=by
    rcases dD g w.heap.size with h|h
    ·exact h
    ·have:=n.fQ g h;omega
   exact l.cell g j a (bR U (H g))
  fR:=l.fR }
 have T:=n.Sa P (by rintro (⟨r,_,h⟩|⟨b,_,h⟩)<;>cases h) (λb h=>by
   rcases h with ⟨r,_,h⟩|⟨L,G,h⟩
   ·cases h
   ·cases h;exact S b G) (λr h=>by
   rcases h with ⟨Y,D,h⟩|⟨L,_,h⟩
   ·cases h;exact Q r D
   ·cases h)
 have p:∀g∈F,(∀b K,look s.bx b=Z K->c.ω g≠.box b)/\∀r x,look s.rw r=Z x->c.ω g≠.row r:=by
  intro g a;rcases t g a with ⟨r,D,h⟩|⟨b,G,h⟩
  ·refine⟨λb K _=>by rw[h];simp,λq x A=>?_⟩;rw[h];intro e;cases e;rw[Q r D]at A;cases A
  ·refine⟨λL K A=>?_,λq x _=>by rw[h];simp⟩;rw[h];intro e;cases e;rw[S b G]at A;cases A
 refine⟨P,?_⟩;have i2:=T.settle (h':=λg=>if g < w.heap.size/\g∉F then c.h g else h' g) (ω':=λg=>match c.ω g with | .row r=>if r∈mv/\g∈F then .dM else .row r|o=>o)
  (λg=>by
   split
   ·exact aD _
   ·rename_i R;rcases dD g w.heap.size with h|h
    ·exact aG (H g) (l.mono g h)
    ·rw[n.fQ g h];omega)
  (λg a=>by
   by_cases k:g < w.heap.size/\g∉F
   ·simp[k]at a
   ·simp only[if_neg k]at a;rcases dD g w.heap.size with h|h
    ·have y:g∈F:=by
      rcases jK (g∈F) with i|i
      ·exact i
      ·exact absurd ⟨h,i⟩ k
     have V:c.ω g≠.free:=by rcases t g y with ⟨r,_,h⟩|⟨b,_,h⟩<;>rw[h]<;>simp
     exact⟨bR h l.size,(n.own g V).2,p g y⟩
    ·have W:g < v.heap.size:=by
      rcases dD g v.heap.size with i|i
      ·exact i
      ·exact absurd (by rw[l.fQ g i,n.fQ g h]) a
     have B:=n.tf h;exact⟨W,.inl (aG n.size h),λ_ _ _=>by rw[B];simp,λ_ _ _=>by rw[B];simp⟩)
  (λg=>by
   cases m:c.ω g with
   |row r=>
    simp only
    by_cases k:r∈mv/\g∈F
    ·rw[if_pos k];have:=p g k.2;rw[m]at this;exact .inr ⟨.inr rfl,by simp,this⟩
    ·rw[if_neg k];exact .inl rfl
   |_=>exact .inl rfl)
  (λg b a=>by
   have m:c.ω g=.box b:=by
    cases m:c.ω g with
    |row r=>
     rw[m]at a;simp only at a
     split at a<;>cases a
    |free=>rw[m]at a;cases a
    |dM=>rw[m]at a;cases a
    |box L=>rw[m]at a;exact a
   by_cases k:g < w.heap.size/\g∉F
   ·simp only[if_pos k];exact n.oq g b m
   ·simp only[if_neg k];rcases dD g w.heap.size with h|h
    ·have y:g∈F:=by
      rcases jK (g∈F) with i|i
      ·exact i
      ·exact absurd ⟨h,i⟩ k
     exact X g y b m
    ·rw[n.tf h]at m;cases m)
 refine⟨_,i2,rfl,rfl,λg=>?_,λg C i=>by simp[C,i],λg a=>?_,λg a ⟨r,D,h⟩=>by simp[h,D,a],λg b h=>by simp[h],λg a=>by simp[n.tf a]⟩
 ·dsimp only;split
  ·exact aD _
  ·rcases dD g w.heap.size with h|h
   ·exact aG (H g) (l.mono g h)
   ·rw[n.fQ g h];omega
 ·have k:¬(g < w.heap.size/\g∉F):=by
   rintro⟨C,i⟩
   rcases a with h|h
   ·omega
   ·exact i h
  simp only[if_neg k]
theorem pY.re{h i:Nat->Nat}{x:Row}{v:Value}{F:M Nat}(B:pY h w x v F)(e:∀g∈F,i g=h g)(a:x.deep=I\/∀g,h g<=i g):pY i w x v F:=by
 obtain⟨A,n,c,q1,q2,t,s,r,q,p,d⟩:=B;refine⟨A,n,c,q1,q2,t,s,r,q,p,?_⟩;rcases d with d|⟨g,o,m,G,a1,a2,a3,a4,a5,K,H,D,a9,b⟩
 ·exact .inl d
 ·have k:g∈F:=by
   cases hd:x.deep with
   |true=>rw[(a9 hd).1];simp
   |false=>rw[(b hd).1];simp
  refine .inr ⟨g,o,m,G,a1,a2,a3,a4,a5,by rw[e g k];exact K,λy=>by rw[e g k];exact H y,D,λhd=>⟨(a9 hd).1,λj l=>?_⟩,λhd=>⟨(b hd).1,?_⟩⟩
  ·have C:j.1∈F:=by rw[(a9 hd).1];simp;exact .inr ⟨j.2,l⟩
   rw[e _ C];exact (a9 hd).2 j l
  ·rcases a with a|a
   ·rw[hd]at a;cases a
   ·exact (b hd).2.mono a
theorem iZ.re{h m:Nat->Nat}:∀{c:M RV} {p:M Value} {F:M Nat},iZ h w c p F->(∀g∈F,m g=h g)->(c.all RV.closed=I\/∀g,h g<=m g)->iZ m w c p F
 |[],_,_,b,_,_=>by simpa only [iZ] using b
 | .d x::c,_,_,b,e,a=>by
  simp only[iZ,Ik]at b ⊢;obtain⟨v,n,q,o,rfl,rfl,⟨rfl,G,i,l⟩,k⟩:=b;refine⟨v,n,[],o,rfl,rfl,⟨rfl,G,i,?_⟩,iZ.re k (by simpa using e) (a.imp (λh=>by simp at h ⊢;exact h.2) id)⟩;rcases a with a|a
  ·simp only[cX,ai,RV.closed]at a;have:fp w [x] [v] G:=by simp only[fp];exact⟨v,[],G,[],rfl,by simp,i,rfl,rfl⟩
   have r:G=[]:=this.plain (by simp[a.1]);subst r;exact λ_ h=>by simp at h
  ·exact l.mono a
 | .row x::c,_,_,b,e,a=>by
  simp only[iZ,Ik]at b ⊢;obtain⟨v,n,q,o,rfl,rfl,⟨i,l⟩,k⟩:=b;refine⟨v,n,q,o,rfl,rfl,⟨i.re (λg j=>e g (by simp[j])) (a.imp (λh=>by simp[RV.closed]at h;exact h.1) id),l⟩,iZ.re k (λg j=>e g (by simp[j])) (a.imp (λh=>by simp at h ⊢;exact h.2) id)⟩
theorem na.re{h n:Nat->Nat}:∀{c:M A} {q:M Value} {F:M Nat},na h w c q F->(∀g∈F,n g=h g)->(c.all A.closed=I\/∀g,h g<=n g)->na n w c q F
 |[],_,_,a,_,_=>by simpa only [na] using a
 | .val B cs::c,_,_,a,b,e=>by
  simp only[na,AR]at a ⊢;obtain⟨v,o,r,p,rfl,rfl,⟨i,l,k⟩,j⟩:=a;exact⟨v,o,r,p,rfl,rfl,⟨i,l.re (λg d=>b g (by simp[d])) (e.imp (λh=>by simp only[cX,ai,A.closed]at h;exact h.1) id),k⟩,na.re j (λg d=>b g (by simp[d])) (e.imp (λh=>by simp only[cX,ai]at h;exact h.2) id)⟩
 | .box cs::c,_,_,a,b,e=>by
  simp only[na,AR]at a ⊢;obtain⟨v,o,r,p,rfl,rfl,⟨g,T,i,s,x,m,l,rfl,k⟩,j⟩:=a;refine⟨v,o,g::s,p,rfl,rfl,⟨g,T,i,s,x,m,by rw[b g (by simp)];exact l,rfl,k.re (λy t=>b y (by simp[t])) (e.imp (λh=>by simp only[cX,ai,A.closed]at h;exact h.1) id)⟩,na.re j (λg d=>b g (by simp[d])) (e.imp (λh=>by simp only[cX,ai]at h;exact h.2) id)⟩
theorem AR.ptr{h:Nat->Nat}{a:A}{g:Nat}{F:M Nat}(i:AR h w a (.pointer (Z ⟨g,0,O⟩)) F):(∃b,a=.box b)/\h g=0/\g∈F:=by
 cases a with
 |val s b=>
  simp only[AR]at i;obtain⟨o,l,q,k⟩:=i;cases s with
  |true=>cases q rfl
  |false=>
   have:=k rfl;subst this;cases b with
   |nil=>simp[iZ]at l
   |cons r t=>
    simp only[iZ]at l;obtain⟨v,B,D,C,e,_,j,_⟩:=l;simp only[cl]at e;rw[<- e.1]at j;cases r with
    |d x=>
     obtain⟨_,G,m,_⟩:=j;have:=m.rY;cases x<;>simp[Rp]at m
    |row x=>
     obtain⟨A,n,c,p⟩:=j.1.slice;cases p
 |box b=>
  simp only[AR]at i;obtain⟨y,T,o,H,e,_,k,rfl,_⟩:=i;simp only[Value.pointer.injEq,ae,Addr.mk.injEq,and_true]at e;subst e;exact⟨⟨b,rfl⟩,k,by simp⟩
theorem na.ptr{h:Nat->Nat}:∀{as:M A} {i:M Value} {F:M Nat},na h w as i F->∀g,Value.pointer (Z ⟨g,0,O⟩)∈i->h g=0/\g∈F
 |[],_,_,c,g,b=>by simp only[na]at c;rw[c.1]at b;simp at b
 |a::as,_,_,c,g,b=>by
  simp only[na]at c;obtain⟨v,l,n,m,rfl,rfl,k,j⟩:=c;rcases aL.1 b with rfl|b
  ·obtain⟨_,e,d⟩:=k.ptr;exact⟨e,by simp[d]⟩
  ·obtain⟨e,d⟩:=na.ptr j g b;exact⟨e,by simp[d]⟩
def Ij(β:Nat->Nat):M C->M Value->Prop
 |[],a=>a=[]
 |c::cs,a=>∃v d,a=v::d/\(∀b,c=.ptr b 0->v=.pointer (Z ⟨β b,0,O⟩))/\Ij β cs d
theorem fq.VU{d:Gh}:∀{a:M C} {g:M Value},fq d w a g->Ij d.β a g
 |[],_,h=>by simpa only [fq,Ij] using h
 |c::a,_,h=>by
  simp only[fq]at h;obtain⟨v,k,rfl,j,i⟩:=h;simp only[Ij];exact⟨v,k,rfl,λb e=>by subst e;simpa only [CR] using j,fq.VU i⟩
theorem CD:∀(n:M C) {as outs:M A} {vs:M Value} {F:M Nat} {k:Gh} {s s':St},Inv k h0 io w0 s f w->Ij k.β n vs->A6 s' n=Z as->na k.h w outs (il as vs) F->F.Nodup->(∀g∈F,(k.ω g=.free\/k.ω g=.dM\/Value.pointer (Z ⟨g,0,O⟩)∈il as vs)/\g < w.heap.size/\(w0.heap.size<=g\/g∈io))->
  (∀b∈db n,k.ω (k.β b)=.box b)->∃l,Inv l h0 io w0 (l6 s n outs) f w/\l.β=k.β/\l.h=k.h/\∀g,g∉F->l.ω g=k.ω g
 |[],as,outs,vs,F,k,s,s',G,_,_,_,_,_,_=>⟨k,by simpa [l6] using G,rfl,rfl,λ_ _=>rfl⟩
 |c::n,as,outs,vs,F,k,s,s',G,V,p,r,L,t,q=>by
  simp only[Ij]at V;obtain⟨v,fx,rfl,x,S⟩:=V;simp only[A6]at p
  split at p
  ·rename_i a i;simp only[ak]at p;obtain⟨Sd,p,rfl⟩:=p;by_cases N:∃b,c=.ptr b 0
   ·obtain⟨b,rfl⟩:=N;have oq:∃m,a=.box m:=by
     simp only[V8]at i
     split at i
     ·simp only[ak]at i;obtain⟨m,_,rfl⟩:=i;exact⟨m,rfl⟩
     ·cases i
    obtain⟨m,rfl⟩:=oq;simp only[il]at r t;have x:=x b rfl;cases outs with
    |nil=>simp[na]at r
    |cons o outs=>
     simp only[na]at r;obtain⟨v0,ovs,F1,F2,e,rfl,H,W⟩:=r;simp only[cl]at e;obtain⟨rfl,rfl⟩:=e;rw[x]at H;obtain⟨⟨Wh,rfl⟩,hz,hgm⟩:=H.ptr;simp only[AR]at H;obtain⟨g,T,us,F',e,hB,CV,rfl,vv⟩:=H;simp only[Value.pointer.injEq,ae,Addr.mk.injEq,and_true]at e;subst e;rw[bM]at L;obtain⟨zy,NV,K⟩:=L;obtain⟨y,R⟩:=cC.1 zy;have Y:∀g∈F',k.ω g=.free\/k.ω g=.dM:=by
      intro g j;rcases (t g (by simp[j])).1 with h|h|h
      ·exact .inl h
      ·exact .inr h
      ·exfalso
       rcases aL.1 h with h|h
       ·rw[x]at h;simp only[Value.pointer.injEq,ae,Addr.mk.injEq,and_true]at h;exact y (h▸j)
       ·have:=(na.ptr W g h).2;exact K g (by simp[j]) g this rfl
     obtain⟨U,i1,c1,B,Pv,D,s1⟩:=o8 (d:=b+500) Wh 0 G vv R (λg j=>⟨Y g j,(t g (by simp[j])).2⟩);have Q:U.ω (U.β b)=.box b:=by
      rw[B,D _ y];exact q b (by simp[db])
     have i2:=i1.fY (b:=b) (by rw[B];exact hB) Q c1;have P:∀g,g∈F2->g∉F':=λg j h=>K g (by simp[h]) g j rfl;obtain⟨mB,i3,b3,h3,o3⟩:=CD n (as:=Sd) (outs:=outs) (vs:=fx) (F:=F2) i2 (by rw[B];exact S) p (by rw[Pv];exact W) NV (λg j=>by
      obtain⟨k1,k2⟩:=t g (by simp[j]);refine⟨?_,k2⟩;rw[D g (P g j)];rcases k1 with h|h|h
      ·exact .inl h
      ·exact .inr (.inl h)
      ·rcases aL.1 h with h|h
       ·exfalso
        rw[x]at h;simp only[Value.pointer.injEq,ae,Addr.mk.injEq,and_true]at h;exact K g (by simp[h]) g j rfl
       ·exact .inr (.inr h)) (λb' lI=>by
      have DS:=q b' (by simp[db,lI]);rw[B,D]
      ·exact DS
      ·intro hm;rcases Y _ hm with h|h<;>rw[DS]at h<;>cases h)
     refine⟨mB,by simpa [l6] using i3,b3.trans B,h3.trans Pv,λg j=>?_⟩;simp only[ba,aL,not_or]at j;rw[o3 g j.2,D g j.1.2]
   ·have xV:∃X m,a=.val X m:=by
     unfold V8 at i
     split at i
     ·rename_i b;exact absurd ⟨b,rfl⟩ N
     ·simp only[ak]at i;obtain⟨m,_,rfl⟩:=i;exact⟨_,m,rfl⟩
    obtain⟨X,m,rfl⟩:=xV;simp only[il]at r t;have e:l6 s (c::n) outs=l6 s n outs:=by
     cases c with
     |ptr b o=>
      cases o with
      |zero=>exact absurd ⟨b,rfl⟩ N
      |succ o=>simp[l6]
     |_=>simp[l6]
    rw[e];exact CD n G S p r L t (λb hb=>q b (by cases c<;>simp[db,hb]))
  ·cases p
theorem AU{d:Nat}:∀(l:M A) {o:M Value} {F:M Nat} (q:Nat) {c:Gh} {s:St},Inv c h0 io w0 s f w->na c.h w l o F->F.Nodup->(∀g∈F,(c.ω g=.free\/c.ω g=.dM)/\g < w.heap.size/\(w0.heap.size<=g\/g∈io))->(∀a∈l,∃x m,a=.val x m/\m.length<=30)->
  ∃b,Inv b h0 io w0 (gF d q l s).2 f w/\fq b w (gF d q l s).1 o/\b.β=c.β/\b.h=c.h/\∀r,(∀i,30 * q<=i->r≠yc d i)->b.sl r=c.sl r
 |[],o,F,q,c,s,k,e,_,_,_=>by
  simp only[na]at e;obtain⟨rfl,rfl⟩:=e;exact⟨c,by simpa [gF] using k,by simp[gF,fq],rfl,rfl,λ_ _=>rfl⟩
 |a::l,o,F,q,c,s,k,e,C,H,D=>by
  obtain⟨x,m,rfl,G⟩:=D a (by simp);simp only[na,AR]at e;obtain⟨v,fx,F1,F2,rfl,rfl,⟨y,K,h4,h5⟩,Y⟩:=e;rw[bM]at C;obtain⟨P,NV,Q⟩:=C;have U:=K.length;obtain⟨pq,T,c1,b1,N,S,R⟩:=uC (d:=d) m (30 * q) k K P (λg p=>H g (by simp[p]));obtain⟨t,i2,c2,b2,L,B⟩:=AU l (q+1) T (by rw[N];exact Y) NV (λg p=>by
   rw[S g (λh=>Q g h g p rfl)];exact H g (by simp[p])) (λa X=>D a (by simp[X]))
  have n:fq t w (ft d (30 * q) m s).1 y:=by
   refine c1 t (by rw[L]) (λj W V=>B _ (λi k=>Rg (by omega)))
  refine⟨t,i2,?_,b2.trans b1,L.trans N,λr e=>?_⟩
  ·simp only[gF,fq];refine⟨v,fx,rfl,?_,c2⟩;cases x with
   |true=>
    rw[h4 rfl];simp only[if_true,CR];exact⟨y,rfl,n⟩
   |false=>
    simp only[aF,if_false];have:=h5 rfl;subst this;exact BI n
  ·rw[B r (λi k=>e i (by omega)),R r (λi k=>e i k)]
end
end
end Go.Proofs.YtnnjajingjfjiaaGreatDoor
