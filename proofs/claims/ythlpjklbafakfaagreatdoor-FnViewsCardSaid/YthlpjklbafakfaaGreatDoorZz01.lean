/- Part of the proof: a machine over plain data, its proof, the functions of the program run on symbols, what they answer. Condition: none. -/
import Derived.WalkKit
import Derived.WalkSpells
import Derived.WalkLawsBesides
import Derived.Deep.LoopGhost
import Derived.OrdersHeld
import Derived.Lib.ItoaNum
import Derived.Lib.Bytealg
import Derived.Lib.LaidTab
import Derived.Laws.Tables
set_option linter.unusedVariables false
set_option linter.unusedSimpArgs false
open Array renaming length_toList->eW,toList_map->mB,getElem?_eq_getElem->mE,replicate->p9,getElem?_eq_none->vz
open BitVec renaming ofInt->dK
open Bool renaming and_eq_true->af,false_eq_true->aC,not_eq_true'->bY,or_eq_true->dr,eq_iff_iff->dL,true->I,false->J
open Decidable renaming em->jK,decide->Z'
open Go renaming sizeOf->oS
open Int renaming ediv_le_self->oT,emod_lt_of_pos->rB,neg_neg->tJ,emod_nonneg->wH,le_refl->yb
open List renaming length_map->aj,cons_append->aq,nil_append->ay,length_cons->aE,length_nil->aJ,mem_cons->aP,append_nil->aQ,length_append->aR,mem_append->aS,map_cons->aW,replicate->bc,all_eq_true->bg,take_append_drop->bh,length_take->bj,getElem?_eq_some_iff->bm,append_assoc->bE,nodup_append->bG,mem_singleton->bI,all_cons->bJ,take_length->bN,map_append->bR,length_drop->bT,eq_nil_of_length_eq_zero->ck,nodup_cons->cl,mem_map->cm,mem_of_mem_take->cz,map_nil->cE,length_eq_zero_iff->cG,getElem?_take->da,length_eq_one_iff->db,getElem?_append_left->dW,mem_map_of_mem->ey,drop_of_length_le->eJ,ext_getElem?->fi,take_succ_cons->fE,mem_of_getElem?->gD,mem_of_mem_drop->iD,flatMap_cons->iL,replicate_succ->ja,getElem?_drop->jA,getElem?_set->jZ,drop_drop->kO,filter_filter->nz,size_toArray->nW,take_left->nX,getElem?_eq_none->oD,length_set->qa,getElem?_append_right->rn,range'->sF,foldl_cons->wm,drop_left->xX,getElem?_append->xZ
open List.cons renaming injEq->bZ
open Nat renaming le_refl->au,le_trans->aL,zero_add->bD,lt_of_lt_of_le->cA,zero_le->cB,add_assoc->cV,lt_or_ge->dU,mul_le_mul_right->ee,min_eq_left->ei,add_zero->eu,beq->fj,blt->gf,eq_of_beq_eq_true->gl,ble->gV,add_mul->lj,succ_mul->n8,blt_eq->oU,add_sub_cancel_left->ur
open Ne renaming symm->n9
open Option renaming map_eq_some_iff->ak,isSome_iff_exists->cn,bind_some->dS,isNone_iff_eq_none->rF,some->Z,none->O
open Option.some renaming injEq->aa,inj->iE
open Prod renaming fst->eK,snd->rq
open Prod.mk renaming injEq->aA
open UInt8 renaming ofNat->dX
namespace Go.Proofs.YthlpjklbafakfaaGreatDoor
abbrev M.{v}(α:Type v):=List α
abbrev u.{v}(α:Type v):=Option α
abbrev z:=ByteArray
section
open Go.RowKit
inductive V where
 |int (n:Int)
 |bool (b:Bool)
 |str (s:ByteArray)
 |list (xs:List V)
 |agg (fs:List V)
mutual
def V.cnt:V->Nat
 | .int _=>1
 | .bool _=>1
 | .str _=>1
 | .list xs=>V.acJ xs+1
 | .agg fs=>V.acJ fs+1
def V.acJ:List V->Nat
 |[]=>0
 |f::fs=>V.cnt f+V.acJ fs+1
end
def jo(w:World)(b o:Nat)(c:M Value):Prop:=∀j a,c[j]?=Z a->w.cell? ⟨b,o+j,O⟩=Z a
theorem pz(b o n:Nat):(⟨b,o,O⟩:Addr).add n=⟨b,o+n,O⟩:=by
 unfold Addr.add;split
 ·rename_i h;subst h;rfl
 ·rfl
theorem jo.eB{w c:World}{b o:Nat}{d:M Value}(h:jo w b o d)(f:c.heap[b]?=w.heap[b]?):jo c b o d:=by
 intro j a e;rw[World.cell?_of_block (w:=w) f];exact h j a e
theorem jo.sub{w:World}{b o:Nat}{d:M Value}(h:jo w b o d)(j k:Nat):jo w b (o+j) ((d.drop j).take k):=by
 intro i a c;rw[da]at c
 split at c
 ·rw[jA]at c;rw[cV];exact h _ a c
 ·cases c
theorem Hi{w:World}{b:Nat}{o:Obj}(h:w.heap[b]?=Z o):b < w.heap.size:=by
 rcases dU b w.heap.size with a|a
 ·exact a
 ·simp[vz a]at h
theorem Ja{w a:World}{b:Nat}(d:b < w.heap.size)(c:a.heap[b]?=w.heap[b]?):b < a.heap.size:=by
 rw[mE d]at c;exact Hi c
structure Bk (B:Nat) (w w':World):Prop extends Below B w w' where
 FP:∀g,B<=g->∀o,w'.frozen? ⟨g,o,none⟩=false
theorem xp{w:World}{g:Nat}(h:w.heap.size<=g)(o:Nat):w.frozen? ⟨g,o,O⟩=J:=by
 simp[World.frozen?,vz h]
theorem Kc(w:World):Bk w.heap.size w w:=⟨Below.refl _ _,λ_ a o=>xp a o⟩
theorem Bk.drew{B:Nat}{a w:World}(h:Bk B a w):Bk B a w.drew:=⟨h.toBelow.drew,h.FP⟩
theorem Kb{B:Nat}{a w d:World}(h:Bk B a w)(c:Bk w.heap.size w d)(hB:B<=w.heap.size):Bk B a d:=by
 refine⟨h.toBelow.trans (c.toBelow.mono hB),λg e o=>?_⟩;rcases dU g w.heap.size with b|b
 ·rw[World.frozen?_of_block (w:=w) (c.block g b)];exact h.FP g e o
 ·exact c.FP g b o
theorem vC(w:World)(a:Array Value)(t:TypeId):Bk w.heap.size w (w.alloc (.cells a t)):=by
 refine⟨(Below.refl _ _).alloc (au _) _,λg b o=>?_⟩;by_cases e:g=w.heap.size
 ·subst e;unfold World.frozen?;simp only[heap_alloc_new];simp
 ·exact xp (by simp;omega) o
def kQ(w:World)(g:Nat)(t:TypeId)(a:M Value):Prop:=w.heap[g]?=Z (.cells a.toArray t (0,0))
def gM(w:World)(g:Nat)(o:Obj):World:={w with heap:=w.heap.setIfInBounds g o }
section
variable {w w':World} {g:Nat} {t:TypeId} {cs:M Value}
theorem kQ.lt(h:kQ w g t cs):g < w.heap.size:=Hi h
theorem kQ.cell(h:kQ w g t cs)(i:Nat):w.cell? ⟨g,i,O⟩=cs[i]?:=by
 unfold kQ at h;simp[World.cell?,h]
theorem kQ.SN(h:kQ w g t cs):jo w g 0 cs:=by
 intro j a b;rw[bD,h.cell,b]
theorem kQ.frozen(h:kQ w g t cs)(i:Nat):w.frozen? ⟨g,i,O⟩=J:=by
 unfold kQ at h;simp[World.frozen?,h]
theorem kQ.new(w:World)(t:TypeId)(cs:M Value):kQ (w.alloc (.cells cs.toArray t)) w.heap.size t cs:=by
 unfold kQ;exact heap_alloc_new w _
theorem kQ.eB(h:kQ w g t cs)(a:w'.heap[g]?=w.heap[g]?):kQ w' g t cs:=a.trans h
theorem kQ.alloc(h:kQ w g t cs)(o:Obj):kQ (w.alloc o) g t cs:=h.eB (Below.heap_alloc w o g h.lt)
theorem RH(w:World)(g:Nat)(o:Obj)(k:Nat)(h:k≠g):(gM w g o).heap[k]?=w.heap[k]?:=by
 simp[gM,Array.getElem?_setIfInBounds_ne (n9 h)]
theorem gm(w:World)(g:Nat)(o:Obj):(gM w g o).heap.size=w.heap.size:=by simp[gM]
theorem kQ.iw(h:kQ w g t cs)(a:TypeId)(b:M Value):kQ (gM w g (.cells b.toArray a (0,0))) g a b:=by
 unfold kQ gM;simp[h.lt]
theorem BK(h:kQ w g t cs)(i:Nat)(v:Value):w.setCell ⟨g,i,O⟩ v=gM w g (.cells (cs.set i v).toArray t (0,0)):=by
 unfold World.setCell gM
 congr 1
 apply Array.ext
 ·simp
 ·intro k a c;simp only[Array.size_modify]at a;simp only[Array.getElem_modify];split
  ·rename_i e;subst e;have b:w.heap[g]'a=.cells cs.toArray t (0,0):=by
    have:=h;unfold kQ at this;rw[mE a]at this;exact iE this
   rw[b];simp
  ·rename_i e;rw[Array.getElem_setIfInBounds_ne _ e]
end
theorem kQ.drew{w:World}{g:Nat}{t:TypeId}{a:M Value}(h:kQ w g t a):kQ w.drew g t a:=h
theorem size_alloc(w:World)(o:Obj):(w.alloc o).heap.size=w.heap.size+1:=by simp
end
section
open Go.RowKit
abbrev Fm:=Nat->Value
def FQ(f:Fm)(d:Nat)(v:Value):Fm:=λi=>cond (fj i d) v (f i)
def fr(f:Fm)(N:Nat):Act:=⟨Array.ofFn (λi:Fin N=>f i.val),[]⟩
theorem qK(f:Fm)(N d:Nat)(v:Value):(fr f N).put (Z d) v=fr (FQ f d v) N:=by
 have e:(Array.ofFn (λi:Fin N=>f i.val)).setIfInBounds d v=Array.ofFn (λi:Fin N=>FQ f d v i.val):=by
  apply Array.ext
  ·simp
  ·intro i g a;simp only[Array.size_ofFn]at a;rw[Array.getElem_setIfInBounds (by simpa using a)];simp only[Array.getElem_ofFn,FQ];by_cases h:d=i
   ·subst h;simp
   ·have c:fj i d=J:=by
     cases b:fj i d
     ·rfl
     ·exact absurd (gl b).symm h
    simp[h,c]
 exact congrArg (λt=>Act.mk t []) e
theorem Pq(f:Fm){N d:Nat}(hd:d < N):(fr f N).eval (.tmp d)=f d:=by
 simp[fr,Act.eval,hd]
theorem et{f:Fm}{N d:Nat}{v:Value}(h:f d=v)(hd:gf d N=I:=by rfl):(fr f N).eval (.tmp d)=v:=by
 rw[Pq f (by simpa using hd)];exact h
theorem ec{f:Fm}{N:Nat}{v:Value}:(fr f N).eval (.const v)=v:=rfl
def Td(N:Nat)(c:Fm->World->Prop)(d:Nat->Fm->World->Prop)(b:Fm->World->Prop):Exit->Act->World->Prop
 | .normal,a,w=>∃f,a=fr f N/\c f w
 | .exit id,a,w=>∃f,a=fr f N/\d id f w
 | .ret,a,w=>∃f,a=fr f N/\b f w
 |_,_,_=>False
def W(P:Program)(N:Nat)(c:Code)(b:Fm->World->Prop)(d:Nat->Fm->World->Prop)(a:Fm->World->Prop)(f:Fm)(w:World):Prop:=
 c.wp P (Td N b d a) (fr f N) w
def Ls(P:Program)(N:Nat)(a:Array Oper)(b:Fm->World->Prop)(rest:M Oper)(f:Fm)(w:World):Prop:=
 wpList P a (Td N b (λ_ _ _=>False) (λ_ _=>False)) rest (fr f N) w
def qm(N:Nat)(a:Array Oper)(f:Fm)(g:u (Nat×Bool)):Prop:=
 Region.wanted {(default:Oper) with guard:=g } (yielded a (fr f N).tmps)=I
theorem wn{N:Nat}{a:Array Oper}{f:Fm}:qm N a f O:=rfl
theorem E9{N:Nat}{a:Array Oper}{f:Fm}{j c:Nat}(e:(a[j]?).bind (·.dst)=Z c)(hd:gf c N=I)(b:Bool)(g:f c=.bool b):yielded a (fr f N).tmps j=Z b:=by
 have d:c < N:=by simpa using hd
 simp[yielded,e,fr,d,g]
theorem OL{N:Nat}{a:Array Oper}{f:Fm}{j b:Nat}(d:(a[j]?).bind (·.dst)=Z b)(hd:gf b N=I)(e:f b=undef):yielded a (fr f N).tmps j=O:=by
 have c:b < N:=by simpa using hd
 simp[yielded,d,fr,c,e,undef]
theorem wy{N:Nat}{a:Array Oper}{f:Fm}{j b:Nat}{want:Bool}(d:f b=.bool want)(c:(a[j]?).bind (·.dst)=Z b:=by rfl)(hd:gf b N=I:=by rfl):qm N a f (Z (j,want)):=by
 simp[qm,Region.wanted,E9 c hd want d]
theorem qm.to{N:Nat}{a:Array Oper}{f:Fm}{gd:u (Nat×Bool)}(h:qm N a f gd)(c:u Tmp)(op:Op)(e:TypeId)(b:String)(d:Array Edge):Region.wanted ⟨c,op,e,b,d,gd⟩ (yielded a (fr f N).tmps)=I:=h
def jB(N:Nat)(a:Array Oper)(f:Fm)(g:u (Nat×Bool)):Prop:=
 Region.wanted {(default:Oper) with guard:=g } (yielded a (fr f N).tmps)=J
theorem jB.to{N:Nat}{a:Array Oper}{f:Fm}{gd:u (Nat×Bool)}(h:jB N a f gd)(c:u Tmp)(op:Op)(e:TypeId)(b:String)(d:Array Edge):¬Region.wanted ⟨c,op,e,b,d,gd⟩ (yielded a (fr f N).tmps)=I:=by
 have g:Region.wanted ⟨c,op,e,b,d,gd⟩ (yielded a (fr f N).tmps)=J:=h;rw[g];simp
theorem wx{N:Nat}{a:Array Oper}{f:Fm}{j b:Nat}{want:Bool}(d:f b=.bool (!want))(c:(a[j]?).bind (·.dst)=Z b:=by rfl)(hd:gf b N=I:=by rfl):jB N a f (Z (j,want)):=by
 simp[jB,Region.wanted,E9 c hd _ d]
theorem wu{N:Nat}{a:Array Oper}{f:Fm}{j b:Nat}{want:Bool}(d:f b=undef)(c:(a[j]?).bind (·.dst)=Z b:=by rfl)(hd:gf b N=I:=by rfl):jB N a f (Z (j,want)):=by
 simp[jB,Region.wanted,OL c hd d]
section rules
variable {P:Program} {N:Nat} {Kn:Fm->World->Prop} {Ke:Nat->Fm->World->Prop} {Kr:Fm->World->Prop} {f:Fm} {w:World}
theorem kH{x y:Code}(h:W P N x (λf w=>W P N y Kn Ke Kr f w) Ke Kr f w):W P N (.seq x y) Kn Ke Kr f w:=by
 refine wp_seq (wp_mono h ?_);intro e a w b;cases e with
 |normal=>obtain⟨g,rfl,d⟩:=b;exact d
 |exit id=>exact b
 |ret=>exact b
 |goto l=>exact b.elim
 |panic c=>exact b.elim
 |outgrown=>exact b.elim
theorem xU(h:Kn f w):W P N .skip Kn Ke Kr f w:=wp_skip ⟨f,rfl,h⟩
theorem Ml(h:Kr f w):W P N .ret Kn Ke Kr f w:=wp_ret ⟨f,rfl,h⟩
theorem OE{id:Nat}(h:Ke id f w):W P N (.exit id) Kn Ke Kr f w:=wp_exit ⟨f,rfl,h⟩
theorem E4{c:Operand}{x y:Code}(a:(fr f N).eval c=.bool I)(h:W P N x Kn Ke Kr f w):W P N (.cond c x y) Kn Ke Kr f w:=wp_cond a h
theorem Be{c:Operand}{x y:Code}(a:(fr f N).eval c=.bool J)(h:W P N y Kn Ke Kr f w):W P N (.cond c x y) Kn Ke Kr f w:=wp_cond a h
theorem zC{id:Nat}{c:Code}(h:W P N c Kn (λb f w=>if b=id then Kn f w else Ke b f w) Kr f w):W P N (.block id c) Kn Ke Kr f w:=by
 refine wp_block (wp_mono h ?_);intro e a w d;cases e with
 |normal=>exact d
 |ret=>exact d
 |exit b=>
  obtain⟨j,rfl,g⟩:=d;simp only[Exit.inBlock]
  split at g
  ·rename_i i;rw[if_pos i];exact⟨j,rfl,g⟩
  ·rename_i i;rw[if_neg i];exact⟨j,rfl,g⟩
 |goto l=>exact d.elim
 |panic c=>exact d.elim
 |outgrown=>exact d.elim
theorem OF{c:Code}(b:Nat->Fm->World->Prop)(n0:Nat)(o:b n0 f w)
  (round:∀n f w,b n f w->W P N c (λi j=>∃g,g < n/\b g i j) Ke Kr f w):W P N (.loop c) Kn Ke Kr f w:=by
 refine wp_loop_ghost (λn a w=>∃f,a=fr f N/\b n f w) n0 ⟨f,rfl,o⟩ ?_
 rintro n a w ⟨f,rfl,m⟩
 refine wp_mono (round n f w m) ?_;intro e a w d;cases e with
 |normal=>obtain⟨i,rfl,g,k,h⟩:=d;exact⟨g,k,i,rfl,h⟩
 |exit id=>exact d
 |ret=>exact d
 |goto l=>exact d.elim
 |panic c=>exact d.elim
 |outgrown=>exact d.elim
theorem fL{id:Nat}{l:M Oper}(h:Ls P N l.toArray Kn l f w):W P N (.region id l.toArray J) Kn Ke Kr f w:=by
 refine wp_mono (wp_region_lit h) ?_;intro e a w b;cases e with
 |normal=>exact b
 |exit id=>obtain⟨_,_,h⟩:=b;exact h.elim
 |ret=>obtain⟨_,_,h⟩:=b;exact h.elim
 |goto l=>exact b.elim
 |panic c=>exact b.elim
 |outgrown=>exact b.elim
theorem rh{c:Code}{m:Fm->World->Prop}{n:Nat->Fm->World->Prop}{k:Fm->World->Prop}(h:W P N c Kn Ke Kr f w)
  (p:∀f w,Kn f w->m f w) (q:∀i f w,Ke i f w->n i f w) (o:∀f w,Kr f w->k f w):W P N c m n k f w:=by
 refine wp_mono h ?_;intro e a w b;cases e with
 |normal=>obtain⟨j,g,d⟩:=b;exact⟨j,g,p _ _ d⟩
 |exit id=>obtain⟨j,g,d⟩:=b;exact⟨j,g,q _ _ _ d⟩
 |ret=>obtain⟨j,g,d⟩:=b;exact⟨j,g,o _ _ d⟩
 |goto l=>exact b.elim
 |panic c=>exact b.elim
 |outgrown=>exact b.elim
variable {ops:Array Oper} {rest:M Oper} {d:Nat} {op:Op} {ty:TypeId} {pos:String} {aft:Array Edge} {gd:u (Nat×Bool)}
theorem kF(h:Kn f w):Ls P N ops Kn [] f w:=⟨f,rfl,h⟩
theorem AU(a:jB N ops f gd)(h:Ls P N ops Kn rest (FQ f d undef) w):Ls P N ops Kn (⟨Z d,op,ty,pos,aft,gd⟩::rest) f w:=by
 unfold Ls wpList;rw[if_neg (a.to _ _ _ _ _),qK];exact h
theorem Z_(a:jB N ops f gd)(h:Ls P N ops Kn rest f w):Ls P N ops Kn (⟨O,op,ty,pos,aft,gd⟩::rest) f w:=by
 unfold Ls wpList;rw[if_neg (a.to _ _ _ _ _)];exact h
theorem enter{g:FuncId}{j:Func}{c:Code}{args:Array Value}{R:Ending->World->Prop}(n:P.funcs[g]?=Z j)(o:j.body=Z c)(q:j.ntmps=N)(p:gV args.size N=I)
  (h:W P N c (λf w=>∃v,(results j (fr f N).tmps).run P w=.ok v w/\R (.returned v) w) (λ_ _ _=>False) (λf w=>∃v,(results j (fr f N).tmps).run P w=.ok v w/\R (.returned v) w) (λi=>args.getD i undef) w) :
  Calls P g args w R:=by
 refine calls_of_wp n o ?_;have e:({tmps:=args++p9 (j.ntmps - args.size) undef,defers:=[] }:Act)=fr (λi=>args.getD i undef) N:=by
  unfold fr
  congr 1
  have s:args.size<=N:=by simpa using p
  apply Array.ext
  ·simp[q];omega
  ·intro i m k;simp only[Array.getElem_ofFn,Array.getElem_append]
   split<;>simp_all
 rw[e];refine wp_mono h ?_;intro e a w b;cases e with
 |normal=>obtain⟨r,rfl,v,m,k⟩:=b;exact⟨rfl,v,m,k⟩
 |exit id=>obtain⟨_,_,h⟩:=b;exact h.elim
 |ret=>obtain⟨r,rfl,v,m,k⟩:=b;exact⟨rfl,v,m,k⟩
 |goto l=>exact b.elim
 |panic c=>exact b.elim
 |outgrown=>exact b.elim
end rules
section drawn
variable {P:Program} {N:Nat} {Kn:Fm->World->Prop} {Ke:Nat->Fm->World->Prop} {Kr:Fm->World->Prop} {f:Fm} {w:World} {ops:Array Oper} {S:World->Prop}
def FA(ops:Array Oper):M (Nat×Bool)->Array Bool->Bool
 |[],listed=>(Region.ready .any ops listed).isEmpty
 |(i,quiet)::s,listed=>(Region.ready .any ops listed).contains i && (if quiet then Region.free .any ops listed i else Region.ready .any ops listed ==[i]) && FA ops s (listed.setIfInBounds i I)
def Dw(P:Program)(N:Nat)(ops:Array Oper)(S:World->Prop)(Kn:Fm->World->Prop):M (Nat×Bool)->Fm->World->Prop
 |[],f,w=>Kn f w
 |(i,quiet)::s,f,w=>if quiet then
   ∃o v a,ops[i]?=Z o/\YieldsIf P ops S o v (fr f N)/\(fr f N).put o.dst v=fr a N/\S w/\Dw P N ops S Kn s a w
  else wpOp P ops (Td N Kn (λ_ _ _=>False) (λ_ _=>False)) i (λc b=>S b/\∃a,c=fr a N/\Dw P N ops S Kn s a b) (fr f N) w
theorem KK(d:Region.noSelect ops=I):∀(s:M (Nat×Bool)) (listed:Array Bool) (f:Fm) (w:World),FA ops s listed=I->Dw P N ops S Kn s f w->
  wpAnyH P .any ops (Td N Kn (λ_ _ _=>False) (λ_ _=>False)) S s.length listed (fr f N) w
 |[],listed,f,w,b,h=>by
  refine wpAnyH_done ?_ ⟨f,rfl,h⟩ _
  simpa [FA] using b
 |(i,I)::s,listed,f,w,b,h=>by
  simp only[FA,af,if_true]at b;obtain⟨⟨e,x⟩,l⟩:=b;simp only[Dw,if_true]at h;obtain⟨o,v,k,t,p,r,g,hd⟩:=h;refine wpAnyH_take t d x e (λc a w q=>q.elim) p g ?_;rw[r];exact KK d s _ k w l hd
 |(i,J)::s,listed,f,w,b,h=>by
  simp only[FA,af,aC,if_false,beq_iff_eq]at b;obtain⟨⟨_,e⟩,l⟩:=b;simp only[Dw,aC,if_false]at h;refine wpAnyH_all e (by simp) ?_;intro j m;simp only[bI]at m;subst m;refine wpOp_mono ?_ h
  rintro y n ⟨g,k,rfl,hd⟩
  exact⟨g,KK d s _ k n l hd⟩
variable {s:M (Nat×Bool)} {i d:Nat} {op:Op} {ty:TypeId} {pos:String} {aft:Array Edge} {gd:u (Nat×Bool)}
end drawn
section ops
variable {P:Program} {ρ:Operand->Value} {w:World} {dst:u Tmp} {ty:TypeId} {pos:String} {aft:Array Edge} {gd:u (Nat×Bool)}
theorem iC{x:Operand}{v:Value}(a:ρ x=v):(execOp ρ ⟨dst,.move x,ty,pos,aft,gd⟩).run P w=.ok (.value v) w:=by
 subst a;rfl
theorem ku{x:Operand}{v:Value}(a:ρ x=v):(execOp ρ ⟨dst,.assign x,ty,pos,aft,gd⟩).run P w=.ok (.value v) w:=by
 subst a;rfl
theorem Mq{c x y:Operand}{v:Value}(b:ρ c=.bool I)(a:ρ x=v):(execOp ρ ⟨dst,.pick c x y,ty,pos,aft,gd⟩).run P w=.ok (.value v) w:=by
 simp[execOp,b,a,asBool]
theorem Mp{c x y:Operand}{v:Value}(b:ρ c=.bool J)(a:ρ y=v):(execOp ρ ⟨dst,.pick c x y,ty,pos,aft,gd⟩).run P w=.ok (.value v) w:=by
 simp[execOp,b,a,asBool]
theorem aco{x:Operand}{b:Bool}{T:TypeId}(a:ρ x=.bool b):(execOp ρ ⟨dst,.unOp .not T x,ty,pos,aft,gd⟩).run P w=.ok (.value (.bool (!b))) w:=by
 simp[execOp,a,Op.unary]
theorem OU(a b:Int):(a ==b)=Z' (a=b):=by
 by_cases h:a=b<;>simp[h]
section int
variable {x y:Operand} {a b:Int} {T T':TypeId} {ik:IntKind}
theorem Mo{r:Bool}(d:ρ x=.int ik a)(c:ρ y=.int ik b)(e:Z' (a < b)=r):(execOp ρ ⟨dst,.binOp .lss T x y T',ty,pos,aft,gd⟩).run P w=.ok (.value (.bool r)) w:=by
 subst e;simp[execOp,d,c,binOp,Op.intCmp,eqGuard]
theorem akp{r:Bool}(d:ρ x=.int ik a)(c:ρ y=.int ik b)(e:Z' (a<=b)=r):(execOp ρ ⟨dst,.binOp .leq T x y T',ty,pos,aft,gd⟩).run P w=.ok (.value (.bool r)) w:=by
 subst e;simp[execOp,d,c,binOp,Op.intCmp,eqGuard]
theorem ako{r:Bool}(d:ρ x=.int ik a)(c:ρ y=.int ik b)(e:Z' (b < a)=r):(execOp ρ ⟨dst,.binOp .gtr T x y T',ty,pos,aft,gd⟩).run P w=.ok (.value (.bool r)) w:=by
 subst e;simp[execOp,d,c,binOp,Op.intCmp,eqGuard]
theorem akn{r:Bool}(d:ρ x=.int ik a)(c:ρ y=.int ik b)(e:Z' (b<=a)=r):(execOp ρ ⟨dst,.binOp .geq T x y T',ty,pos,aft,gd⟩).run P w=.ok (.value (.bool r)) w:=by
 subst e;simp[execOp,d,c,binOp,Op.intCmp,eqGuard]
theorem akm{r:Bool}(d:ρ x=.int ik a)(c:ρ y=.int ik b)(e:Z' (a=b)=r):(execOp ρ ⟨dst,.binOp .eql T x y T',ty,pos,aft,gd⟩).run P w=.ok (.value (.bool r)) w:=by
 subst e;simp[execOp,d,c,binOp,Op.intCmp,eqGuard];exact OU a b
theorem akq{r:Bool}(d:ρ x=.int ik a)(c:ρ y=.int ik b)(e:Z' (a=b)=!r):(execOp ρ ⟨dst,.binOp .neq T x y T',ty,pos,aft,gd⟩).run P w=.ok (.value (.bool r)) w:=by
 have:r=!Z' (a=b):=by rw[e];simp
 subst this;simp[execOp,d,c,binOp,Op.intCmp,eqGuard,bne];exact OU a b
theorem Q2(d:ρ x=.int .i64 a)(c:ρ y=.int .i64 b)(e:-9223372036854775808<=a+b/\a+b<=9223372036854775807):(execOp ρ ⟨dst,.binOp .add T x y T',ty,pos,aft,gd⟩).run P w=.ok (.value (.int .i64 (a+b))) w:=by
 simp[execOp,d,c,binOp,Op.intArith,eqGuard];exact IntWalk.i64_in _ (by omega)
end int
theorem n7(a b:z):(a.toList ==b.toList)=Z' (a=b):=by
 rw[dL];simp only[beq_iff_eq,decide_eq_true_eq,ByteArray.toList_eq]
 constructor
 ·intro h;cases a;cases b;simp at h;simp[h]
 ·rintro rfl;rfl
section str
variable {x y:Operand} {a b:z} {T T':TypeId}
theorem afA{r:Bool}(d:ρ x=.string a)(c:ρ y=.string b)(e:Z' (a=b)=r):(execOp ρ ⟨dst,.binOp .eql T x y T',ty,pos,aft,gd⟩).run P w=.ok (.value (.bool r)) w:=by
 subst e;simp[execOp,d,c,binOp,Op.stringOp,eqGuard,n7]
theorem afC{r:Bool}(d:ρ x=.string a)(c:ρ y=.string b)(e:Z' (a=b)=!r):(execOp ρ ⟨dst,.binOp .neq T x y T',ty,pos,aft,gd⟩).run P w=.ok (.value (.bool r)) w:=by
 have:r=!Z' (a=b):=by rw[e];simp
 subst this;simp[execOp,d,c,binOp,Op.stringOp,eqGuard,n7]
end str
section lk
variable {x y:Operand} {a b:Bool} {T T':TypeId}
theorem afy{r:Bool}(g:P.underlying T=Z .bool)(d:ρ x=.bool a)(c:ρ y=.bool b)(f:Z' (a=b)=r):(execOp ρ ⟨dst,.binOp .eql T x y T',ty,pos,aft,gd⟩).run P w=.ok (.value (.bool r)) w:=by
 have e:(a ==b)=r:=by subst f;cases a<;>cases b<;>rfl
 simp[execOp,d,c,eqGuard,run_eql_bool w T a b g,e]
theorem afz{r:Bool}(f:P.underlying T=Z .bool)(d:ρ x=.bool a)(c:ρ y=.bool b)(g:Z' (a=b)=!r):(execOp ρ ⟨dst,.binOp .neq T x y T',ty,pos,aft,gd⟩).run P w=.ok (.value (.bool r)) w:=by
 have e:(a ==b)=!r:=by cases a<;>cases b<;>cases r<;>simp_all
 simp[execOp,d,c,eqGuard,run_neq_bool w T a b f,e]
end lk
theorem Mn{x:Operand}{A:u Addr}{n c:Nat}{T a:TypeId}(d:P.underlying T=Z (.slice a))(b:ρ x=.slice A n c) :
  (execOp ρ ⟨dst,.call {callee:=.builtin .len,args:=#[x],argTypes:=#[T] },ty,pos,aft,gd⟩).run P w=.ok (.value (.int .i64 n)) w:=by
 simp[execOp,resolve,invoke,builtin,Builtin.len_,b,run_underlying d,goInt]
theorem afB{x:Operand}{s:z}{T:TypeId}(b:P.underlying T=Z .string)(a:ρ x=.string s) :
  (execOp ρ ⟨dst,.call {callee:=.builtin .len,args:=#[x],argTypes:=#[T] },ty,pos,aft,gd⟩).run P w=.ok (.value (.int .i64 s.size)) w:=by
 simp[execOp,resolve,invoke,builtin,Builtin.len_,a,run_underlying b,goInt]
theorem wg{x y:Operand}{b o n c:Nat}{i:Nat}{a:Int}{T d:TypeId}{k:Nat}(j:P.underlying T=Z (.slice d))(l:∀w,(oS d).run P w=.ok k w)(f:ρ x=.slice (Z ⟨b,o,O⟩) n c)(e:ρ y=.int .i64 a)(h:a=(i:Int))(g:i < n) :
  (execOp ρ ⟨dst,.indexAddr T x y,ty,pos,aft,gd⟩).run P w=.ok (.value (.pointer (Z ⟨b,o+i * k,O⟩))) w:=by
 subst h;have m:(0:Int)<=(i:Int)/\(i:Int) < (n:Int):=by omega
 simp[execOp,Instr.indexAt,f,e,asIntOf,run_underlying j,l,pz,g]
def cr(s:z)(i:Nat):Int:=((s[i]?.getD 0).toNat:Int)
theorem mF(s:z)(i:Nat):0<=cr s i/\cr s i<=255:=by
 unfold cr;have:=(s[i]?.getD 0).toNat_lt;omega
theorem Yc{x y:Operand}{s:z}{i:Nat}{a:Int}{T:TypeId}(f:P.underlying T=Z .string)(c:ρ x=.string s)(b:ρ y=.int .i64 a)(e:a=(i:Int))(d:i < s.size) :
  (execOp ρ ⟨dst,.index T x y,ty,pos,aft,gd⟩).run P w=.ok (.value (.int .u8 (cr s i))) w:=by
 subst e;simp[execOp,Instr.index,c,b,asIntOf,run_underlying f,cr,d]
theorem abw{x:Operand}{b o j k:Nat}{T:TypeId}{fs:Array Field}{i:Nat}{a:Field}(e:P.underlying T=Z (.struct fs))(g:fs[i]?=Z a)(f:∀w,(oS a.type).run P w=.ok (k+1) w)(d:a.offset=j)(c:ρ x=.pointer (Z ⟨b,o,O⟩)) :
  (execOp ρ ⟨dst,.fieldAddr T x i,ty,pos,aft,gd⟩).run P w=.ok (.value (.pointer (Z ⟨b,o+j,O⟩))) w:=by
 subst d;simp[execOp,Instr.fieldAt,c,Instr.sureAddr,run_underlying e,g,fieldPlace,f,pz]
theorem OJ{x y:Operand}{A:u Addr}{n c h:Nat}{a:Int}{T d:TypeId}{k:Nat}(l:P.underlying T=Z (.slice d))(m:∀w,(oS d).run P w=.ok k w)(g:ρ x=.slice A n c)(f:ρ y=.int .i64 a)(j:a=(h:Int))(i:h<=c) :
  (execOp ρ ⟨dst,.slice T x O (Z y) O,ty,pos,aft,gd⟩).run P w=.ok (.value (.slice A h c)) w:=by
 subst j;have e:A.map (λb=>b.add 0)=A:=by cases A<;>simp[Addr.add]
 simp[execOp,Instr.sliceAt,Instr.slice,Instr.sliceBounds,Instr.sliceBound,g,f,asIntOf,run_underlying l,m,i,e]
def MP(ρ:Operand->Value):u Operand->Nat->Nat->Prop
 |none,a,m=>m=a
 |some y,_,m=>ρ y=.int .i64 (m:Int)
theorem E8{x:Operand}{m g:u Operand}{A:u Addr}{n c l h:Nat}{T b:TypeId}{k:Nat}(i:P.underlying T=Z (.slice b))(j:∀w,(oS b).run P w=.ok k w)(f:ρ x=.slice A n c)(d:MP ρ m 0 l)(e:MP ρ g n h)(p:l<=h)(o:h<=c) :
  (execOp ρ ⟨dst,.slice T x m g O,ty,pos,aft,gd⟩).run P w=.ok (.value (.slice (if c=l then A else A.map (λa=>a.add (l * k))) (h - l) (c - l))) w:=by
 cases m with
 |none=>
  cases g with
  |none=>simp only[MP]at d e;subst d e;simp[execOp,Instr.sliceAt,Instr.slice,Instr.sliceBounds,f,run_underlying i,j]
  |some a=>simp only[MP]at d e;subst d;simp[execOp,Instr.sliceAt,Instr.slice,Instr.sliceBounds,Instr.sliceBound,f,e,asIntOf,run_underlying i,j,o]
 |some y=>
  cases g with
  |none=>simp only[MP]at d e;subst e;simp[execOp,Instr.sliceAt,Instr.slice,Instr.sliceBounds,Instr.sliceBound,f,d,asIntOf,run_underlying i,j,p]
  |some a=>simp only[MP]at d e;simp[execOp,Instr.sliceAt,Instr.slice,Instr.sliceBounds,Instr.sliceBound,f,d,e,asIntOf,run_underlying i,j,p,o]
theorem Yd{x:Operand}{g e:u Operand}{t:z}{l h:Nat}{T:TypeId}(f:P.underlying T=Z .string)(d:ρ x=.string t)(b:MP ρ g 0 l)(c:MP ρ e t.size h)(j:l<=h)(i:h<=t.size) :
  (execOp ρ ⟨dst,.slice T x g e O,ty,pos,aft,gd⟩).run P w=.ok (.value (.string (t.extract l h))) w:=by
 cases g with
 |none=>
  cases e with
  |none=>simp only[MP]at b c;subst b c;simp[execOp,Instr.sliceAt,Instr.slice,Instr.sliceBounds,d,run_underlying f]
  |some a=>simp only[MP]at b c;subst b;simp[execOp,Instr.sliceAt,Instr.slice,Instr.sliceBounds,Instr.sliceBound,d,c,asIntOf,run_underlying f,i]
 |some y=>
  cases e with
  |none=>simp only[MP]at b c;subst c;simp[execOp,Instr.sliceAt,Instr.slice,Instr.sliceBounds,Instr.sliceBound,d,b,asIntOf,run_underlying f,j]
  |some a=>simp only[MP]at b c;simp[execOp,Instr.sliceAt,Instr.slice,Instr.sliceBounds,Instr.sliceBound,d,b,c,asIntOf,run_underlying f,j,i]
theorem OI{x:Operand}{b o:Nat}{T:TypeId}{v:Value}(d:∀w,(isAgg T).run P w=.ok J w)(a:ρ x=.pointer (Z ⟨b,o,O⟩))(c:w.cell? ⟨b,o,O⟩=Z v) :
  (execOp ρ ⟨dst,.load T x,ty,pos,aft,gd⟩).run P w=.ok (.value v) w:=by
 simp[execOp,Instr.loadAt,a,Instr.sureAddr,loadVar,d,load,Sem.run,c]
theorem run_loadCellsFrom{b o:Nat}:∀(e:M Value) (i:Nat) (d:Array Value),jo w b (o+i) e->(loadCellsFrom ⟨b,o,O⟩ i e.length d).run P w=.ok (d++e.toArray) w
 |[],i,d,_=>by simp[loadCellsFrom]
 |c::e,i,d,h=>by
  have f:=h 0 c (by simp);rw[eu]at f;have g:=run_loadCellsFrom e (i+1) (d.push c) (λj a k=>by
   have:=h (j+1) a (by simpa using k);rw[show o+(i+1)+j=o+i+(j+1) from by omega];exact this)
  simp[loadCellsFrom,load,Sem.run,pz,f,g]
theorem Q3{x:Operand}{b o:Nat}{T:TypeId}{a:M Value}{k:Nat}(g:∀w,(isAgg T).run P w=.ok I w)(f:∀w,(oS T).run P w=.ok k w)(c:ρ x=.pointer (Z ⟨b,o,O⟩))(d:a.length=k)(e:jo w b o a) :
  (execOp ρ ⟨dst,.load T x,ty,pos,aft,gd⟩).run P w=.ok (.value (.agg a.toArray)) w:=by
 subst d;have h:=run_loadCellsFrom (P:=P) (w:=w) (b:=b) (o:=o) a 0 #[] (by simpa using e);simp[execOp,Instr.loadAt,c,Instr.sureAddr,loadVar,g,f,loadCells,h]
def one:Value->Bool
 | .agg _=>J
 | .tuple _=>J
 |_=>I
theorem EE{g i:Nat}{t:TypeId}{a:M Value}{v:Value}{c:Type}(k:Sem c)(b:kQ w g t a)(d:i < a.length)(h:one v=I) :
  (Sem.store .plain ⟨g,i,O⟩ v k).run P w=k.run P (gM w g (.cells (a.set i v).toArray t (0,0))):=by
 have f:w.cell? ⟨g,i,O⟩=Z a[i]:=by rw[b.cell];simp[d]
 have e:=b.frozen i;rw[<- BK b];cases v<;>simp_all[Sem.run,one]
theorem abx{x y:Operand}{g o:Nat}{T t:TypeId}{a:M Value}{v:Value}(h:∀w,(oS T).run P w=.ok 1 w)(c:ρ x=.pointer (Z ⟨g,o,O⟩))(b:ρ y=v)(i:one v=I)(f:kQ w g t a)(d:o < a.length) :
  (execOp ρ ⟨dst,.store T x y,ty,pos,aft,gd⟩).run P w=.ok .skip (gM w g (.cells (a.set o v).toArray t (0,0))):=by
 have e:v.cells=#[v]:=by cases v<;>simp_all[Value.cells,one]
 simp[execOp,Instr.storeAt,c,b,Instr.sureAddr,storeVar,h,e,storeCells,store,Addr.add,EE _ f d i]
def cF(b:M Value)(i:Nat)(a:M Value):M Value:=b.take i++a++b.drop (i+a.length)
theorem sn(w:World)(g:Nat)(o a:Obj):gM (gM w g o) g a=gM w g a:=by
 simp[gM]
theorem vq(b:M Value)(i:Nat)(v:Value)(a:M Value)(h:i+(a.length+1)<=b.length):cF (b.set i v) (i+1) a=cF b i (v::a):=by
 unfold cF
 apply fi
 intro k;simp only[xZ,aR,bj,qa,aE,da,jZ,jA,List.getElem?_cons]
 grind
theorem nu{g:Nat}{t:TypeId}{o:Nat}:∀(c:M Value) (i:Nat) (w:World) (b:M Value),kQ w g t b->o+i+c.length<=b.length->(∀v∈c,one v=I)->
  (storeCells ⟨g,o,O⟩ c i).run P w=.ok () (gM w g (.cells (cF b (o+i) c).toArray t (0,0)))
 |[],i,w,b,d,_,_=>by
  have:gM w g (.cells (cF b (o+i) []).toArray t (0,0))=w:=by
   have f:=d;unfold kQ at f;simp only[cF,aQ,aJ,eu,bh];have q:=d.lt;unfold gM;have:w.heap.setIfInBounds g (.cells b.toArray t (0,0))=w.heap:=by
    apply Array.ext
    ·simp
    ·intro k h p;rw[Array.getElem_setIfInBounds];split
     ·rename_i e;subst e;rw[mE p]at f;exact (iE f).symm
     ·rfl
   rw[this]
  simp[storeCells,this]
 |v::c,i,w,b,d,n,h=>by
  simp only[aE]at n;have m:(b.set (o+i) v).length=b.length:=by simp
  have j:=nu (o:=o) c (i+1) (gM w g (.cells (b.set (o+i) v).toArray t (0,0))) (b.set (o+i) v) (d.iw t _) (by rw[m];omega) (λa l=>h a (by simp[l]));rw[sn,show o+(i+1)=o+i+1 from by omega,vq b (o+i) v c (by omega)]at j;simp only[storeCells,store,pz];have f:=EE (P:=P) (Sem.pure ()) d (show o+i < b.length by omega) (h v (by simp));simp only[Sem.run_bind,f,Sem.run,Result.andThen_ok];exact j
theorem Bh{F:FuncId}{as:Array Operand}{ts:Array TypeId}{a:Array Value}(d:∀(args:Array Value) (w:World),(callFunc F args).run P w=.ok (.enter F args) w)(c:ρ (.func F)=.func (.func F) #[] #[])(b:as.map ρ=a) :
  (execOp ρ ⟨dst,.call {callee:=.value (.func F),args:=as,argTypes:=ts },ty,pos,aft,gd⟩).run P w=.ok (.enter F a) w:=by
 subst b;simp[execOp,resolve,Deferred.ofValue,c,invoke,d]
theorem a1{x:Operand}{a:Value}(h:ρ x=a):(#[x]:Array Operand).map ρ=#[a]:=by simp[h]
theorem a2{x y:Operand}{a v:Value}(h:ρ x=a)(b:ρ y=v):(#[x,y]:Array Operand).map ρ=#[a,v]:=by simp[h,b]
theorem a3{x y a:Operand}{b v q:Value}(h:ρ x=b)(d:ρ y=v)(c:ρ a=q):(#[x,y,a]:Array Operand).map ρ=#[b,v,q]:=by simp[h,d,c]
theorem a4{x y a t:Operand}{b v q r:Value}(h:ρ x=b)(e:ρ y=v)(d:ρ a=q)(c:ρ t=r):(#[x,y,a,t]:Array Operand).map ρ=#[b,v,q,r]:=by simp[h,e,d,c]
theorem a5{x y a t s:Operand}{b v q r p:Value}(h:ρ x=b)(f:ρ y=v)(e:ρ a=q)(d:ρ t=r)(c:ρ s=p):(#[x,y,a,t,s]:Array Operand).map ρ=#[b,v,q,r,p]:=by simp[h,f,e,d,c]
theorem TD{x:Operand}{a:Array Value}{i:Nat}{v:Value}(b:ρ x=.tuple a)(c:a[i]?=Z v):(execOp ρ ⟨dst,.extract x i,ty,pos,aft,gd⟩).run P w=.ok (.value v) w:=by
 simp[execOp,Instr.extract,b,c]
end ops
theorem abF{p:Prop}[Decidable p](h:p):decide p=I:=by simp[h]
theorem abE{p:Prop}[Decidable p](h:¬p):decide p=J:=by simp[h]
theorem abt{k:IntKind}{a b:Int}(h:a=b):Value.int k a=Value.int k b:=by rw[h]
section anf
variable {P:Program} {N:Nat} {f:Fm} {w:World} {fn:Func}
theorem QF{t:Tmp}{v:Value}(h:fn.results=#[.tmp t])(b:f t=v)(c:gf t N=I:=by rfl):(results fn (fr f N).tmps).run P w=.ok v w:=by
 have a:t < N:=by simpa using c
 rw[results_tmp h];simp[fr,a,b]
end anf
def wo(P:Program)(N:Nat)(o:Oper)(f:Fm)(w:World)(K:Fm->World->Prop):Prop:=
 o.wp P (fr f N) w (λc b=>∃a,c=fr a N/\K a b) (λ_ _ _=>False)
structure FY (g:Nat) (w w':World):Prop where
 os:w'.os=w.os
 tape:w'.tape=w.tape
 output:w'.output=w.output
 size:w'.heap.size=w.heap.size
 block:∀k,k≠g->w'.heap[k]?=w.heap[k]?
 fz:∀o,w'.frozen? ⟨g,o,none⟩=false
theorem FY.gM(w:World)(g:Nat)(c:Array Value)(t:TypeId):FY g w (gM w g (.cells c t (0,0))):=by
 refine⟨rfl,rfl,rfl,gm w g _,λk b=>RH w g _ k b,λo=>?_⟩;rcases dU g w.heap.size with a|a
 ·simp[World.frozen?,Go.Proofs.YthlpjklbafakfaaGreatDoor.gM,a]
 ·exact xp (by rw[gm];exact a) o
theorem Rd{B:Nat}{a w c:World}{g:Nat}(h:Bk B a w)(b:FY g w c)(f:B<=g):Bk B a c:=by
 refine⟨h.toBelow.trans ⟨b.os,b.tape,b.output,by rw[b.size];exact au _,λk d=>b.block k (by omega)⟩,λk d o=>?_⟩;by_cases e:k=g
 ·subst e;exact b.fz o
 ·rw[World.frozen?_of_block (w:=w) (b.block k e)];exact h.FP k d o
theorem kQ.off{w a:World}{g k:Nat}{t:TypeId}{b:M Value}(h:kQ w g t b)(d:FY k w a)(c:g≠k):kQ a g t b:=h.eB (d.block g c)
section
variable {P:Program} {N:Nat} {ops:Array Oper} {Kn:Fm->World->Prop} {rest:M Oper} {f:Fm} {w:World} {o:Oper} {S:World->Prop} {s:M (Nat×Bool)} {i:Nat} {K:Fm->World->Prop}
theorem wo.afr{Q:Exit->Act->World->Prop}{p:Act->World->Prop}(h:wo P N o f w K)(k:∀b l,K b l->p (fr b N) l):o.wp P (fr f N) w p Q:=by
 unfold wo Oper.wp at h;unfold Oper.wp;generalize (execOp (fr f N).eval o).run P w=r at *;cases r with
 |ok n l=>
  cases n<;>simp only[Oper.upon]at h ⊢
  case value v=>obtain⟨b,e,a⟩:=h;rw[e];exact k _ _ a
  case skip=>obtain⟨b,e,a⟩:=h;rw[e];exact k _ _ a
  case defer d=>obtain⟨b,e,a⟩:=h;rw[e];exact k _ _ a
  case enter g args=>
   refine Calls.mono h λe m j=>?_;cases e with
   |returned v=>obtain⟨b,e,a⟩:=j;show p _ _;rw[e];exact k _ _ a
   |panicked c=>exact j.elim
   |outgrown=>obtain⟨_,_,h⟩:=j;exact h.elim
  case row r args=>exact Rows.mono h λv m j=>by obtain⟨b,e,a⟩:=j;rw[e];exact k _ _ a
 |halt x l=>
  cases x<;>simp only[Oper.upon]at h
theorem gz(c:qm N ops f o.guard)(h:wo P N o f w (λd a=>Ls P N ops Kn rest d a)):Ls P N ops Kn (o::rest) f w:=by
 unfold Ls wpList;rw[if_pos (show Region.wanted o _=I from c)];exact .inl (h.afr λ_ _ b=>b)
end
section
variable {P:Program} {N:Nat} {f:Fm} {w:World} {K:Fm->World->Prop} {d:Nat} {ty:TypeId} {pos:String} {aft:Array Edge} {gd:u (Nat×Bool)}
theorem eD{op:Op}{v:Value}(a:(execOp (fr f N).eval ⟨Z d,op,ty,pos,aft,gd⟩).run P w=.ok (.value v) w)(h:K (FQ f d v) w):wo P N ⟨Z d,op,ty,pos,aft,gd⟩ f w K:=by
 unfold wo Oper.wp;rw[a,Oper.upon_value];exact⟨_,qK f N d v,h⟩
theorem vg{op:Op}{v:Value}{a:World}(b:(execOp (fr f N).eval ⟨Z d,op,ty,pos,aft,gd⟩).run P w=.ok (.value v) a)(h:K (FQ f d v) a):wo P N ⟨Z d,op,ty,pos,aft,gd⟩ f w K:=by
 unfold wo Oper.wp;rw[b,Oper.upon_value];exact⟨_,qK f N d v,h⟩
theorem NU{op:Op}{a:World}(b:(execOp (fr f N).eval ⟨O,op,ty,pos,aft,gd⟩).run P w=.ok .skip a)(h:K f a):wo P N ⟨O,op,ty,pos,aft,gd⟩ f w K:=by
 unfold wo Oper.wp;rw[b,Oper.upon_skip];exact⟨_,rfl,h⟩
theorem Ej{op:Op}{g:FuncId}{args:Array Value}(b:(execOp (fr f N).eval ⟨Z d,op,ty,pos,aft,gd⟩).run P w=.ok (.enter g args) w){R:Ending->World->Prop}(j:Calls P g args w R)
  (h:∀e a,R e a->∃v,e=.returned v/\K (FQ f d v) a):wo P N ⟨Z d,op,ty,pos,aft,gd⟩ f w K:=by
 unfold wo Oper.wp;rw[b,Oper.upon_enter];refine j.mono λe a i=>?_;obtain⟨v,rfl,c⟩:=h e a i;exact⟨_,qK f N d v,c⟩
theorem LO{op:Op}{T:TypeId}{b:M Value}{v:Value}(c:(execOp (fr f N).eval ⟨Z d,op,ty,pos,aft,gd⟩).run P w=.ok (.value v) (w.alloc (.cells b.toArray T)))
  (h:∀a:World,a.heap.size=w.heap.size+1->Bk w.heap.size w a->kQ a w.heap.size T b->K (FQ f d v) a):wo P N ⟨Z d,op,ty,pos,aft,gd⟩ f w K:=
 vg c (h _ (size_alloc _ _) (vC _ _ _) (kQ.new _ _ _))
end
attribute [irreducible] wo Ls W Dw
end
section
open Go.RowKit
inductive D where
 |int (k:IntKind) (n:Int)
 |bool (b:Bool)
 |str (s:ByteArray)
 |list (k:Nat) (fl:Bool) (es:List (List D))
abbrev E(n:Int):D:=.int .i64 n
instance:Inhabited D:=⟨.bool J⟩
def D.plain:D->Bool
 | .list _ _ _=>J
 |_=>I
def flat(es:M (M D)):Prop:=∀e∈es,∀x∈e,D.plain x=I
theorem km:flat []:=λ_ h=>by simp at h
abbrev Fp:=M (Nat×Nat)
mutual
def Rp(w:World):D->Value->Fp->Prop
 | .int k n,v,F=>v=.int k n/\F=[]/\k.wrap n=n
 | .bool b,v,F=>v=.bool b/\F=[]
 | .str s,v,F=>v=.string s/\F=[]/\s.size<=maxLen
 | .list k j es,v,F=>∃A n c,v=.slice A n c/\n=es.length/\n<=c/\c<=maxLen/\(j=I->flat es)/\0 < k/\(∀e∈es,e.length=k)/\
   ((n=0/\F=[])\/(0 < n/\∃b o h G,A=Z ⟨b,o,O⟩/\F=(b,o+n * k)::G/\fQ w es h G/\jo w b o h))
def fV(w:World):List D->List Value->Fp->Prop
 |[],a,F=>a=[]/\F=[]
 |d::l,a,F=>∃v i g f,a=v::i/\F=g++f/\Rp w d v g/\fV w l i f
def fQ(w:World):List (List D)->List Value->Fp->Prop
 |[],a,F=>a=[]/\F=[]
 |e::es,a,F=>∃v1 v2 g f,a=v1++v2/\F=g++f/\fV w e v1 g/\fQ w es v2 f
end
def uv(F:Fp)(w b:World):Prop:=∀a∈F,∀j,j < a.2->b.cell? ⟨a.1,j,O⟩=w.cell? ⟨a.1,j,O⟩
theorem uv.left{F G:Fp}{w a:World}(h:uv (F++G) w a):uv F w a:=λc b=>h c (by simp[b])
theorem uv.right{F G:Fp}{w a:World}(h:uv (F++G) w a):uv G w a:=λc b=>h c (by simp[b])
theorem fV.length{w:World}:∀(a:M D) {b:M Value} {F:Fp},fV w a b F->b.length=a.length
 |[],_,_,h=>by simp only[fV]at h;simp[h.1]
 |d::a,_,_,h=>by
  simp only[fV]at h;obtain⟨v,e,g,f,rfl,_,_,c⟩:=h;simp[fV.length a c]
theorem fQ.length{w:World}{k:Nat}:∀(es:M (M D)) {a:M Value} {F:Fp},fQ w es a F->(∀e∈es,e.length=k)->a.length=es.length * k
 |[],_,_,h,_=>by simp only[fQ]at h;simp[h.1]
 |e::es,_,_,h,b=>by
  simp only[fQ]at h;obtain⟨v1,v2,i,g,rfl,_,f,d⟩:=h;simp only[aR,aE,fV.length e f,fQ.length es d (λx c=>b x (by simp[c])),b e (by simp),n8];omega
theorem jo.ahu{w d:World}{b o n:Nat}{c:M Value}(h:jo w b o c)(g:o+c.length<=n)(f:∀j,j < n->d.cell? ⟨b,j,O⟩=w.cell? ⟨b,j,O⟩):jo d b o c:=by
 intro j a e;have i:=(bm.1 e).1;rw[f (o+j) (by omega)];exact h j a e
mutual
theorem Rp.eB{w a:World}:∀(d:D) {v:Value} {F:Fp},Rp w d v F->uv F w a->Rp a d v F
 | .int _ _,_,_,h,_=>by simpa only [Rp] using h
 | .bool _,_,_,h,_=>by simpa only [Rp] using h
 | .str _,_,_,h,_=>by simpa only [Rp] using h
 | .list k S es,_,_,h,f=>by
  simp only[Rp]at h ⊢;obtain⟨A,n,c,m,x,l,j,C,L,t,i⟩:=h;refine⟨A,n,c,m,x,l,j,C,L,t,?_⟩;rcases i with i|⟨N,b,o,y,G,i,K,s,R⟩
  ·exact .inl i
  ·subst K;have B:=fQ.length es s t;refine .inr ⟨N,b,o,y,G,i,rfl,fQ.eB es s (λQ H=>f Q (by simp[H])),?_⟩;exact R.ahu (n:=o+n * k) (by rw[B,x];exact au _) (f (b,o+n * k) (by simp))
theorem fV.eB{w a:World}:∀(p:List D) {g:List Value} {F:Fp},fV w p g F->uv F w a->fV a p g F
 |[],_,_,h,_=>by simpa only [fV] using h
 |d::p,_,_,h,f=>by
  simp only[fV]at h ⊢;obtain⟨v,P,r,q,m,rfl,l,j⟩:=h;exact⟨v,P,r,q,m,rfl,Rp.eB d l f.left,fV.eB p j f.right⟩
theorem fQ.eB{w a:World}:∀(es:List (List D)) {g:List Value} {F:Fp},fQ w es g F->uv F w a->fQ a es g F
 |[],_,_,h,_=>by simpa only [fQ] using h
 |e::es,_,_,h,f=>by
  simp only[fQ]at h ⊢;obtain⟨v1,v2,r,q,m,rfl,l,j⟩:=h;exact⟨v1,v2,r,q,m,rfl,fV.eB e l f.left,fQ.eB es j f.right⟩
end
theorem Eg{w:World}{b o:Nat}{v:Value}(h:w.cell? ⟨b,o,O⟩=Z v):b < w.heap.size:=by
 unfold World.cell? at h;rcases dU b w.heap.size with a|a
 ·exact a
 simp_all
mutual
theorem Rp.lt{w:World}:∀(d:D) {v:Value} {F:Fp},Rp w d v F->∀f∈F,f.1 < w.heap.size
 | .int _ _,_,_,h=>by simp only[Rp]at h;simp[h.2.1]
 | .bool _,_,_,h=>by simp only[Rp]at h;simp[h.2]
 | .str _,_,_,h=>by simp only[Rp]at h;simp[h.2.1]
 | .list k R es,_,_,h=>by
  simp only[Rp]at h;obtain⟨A,n,c,r,H,j,i,Q,C,B,g⟩:=h;rcases g with g|⟨K,b,o,p,G,g,y,q,P⟩
  ·simp[g.2]
  ·subst y;have t:=fQ.length es q B;have s:0 < p.length:=by rw[t,<- H];exact Nat.mul_pos K C
   have x:=Eg (P 0 p[0] (by simp[s]));intro f a;rcases aP.1 a with rfl|a
   ·exact x
   ·exact fQ.lt es q f a
theorem fV.lt{w:World}:∀(m:List D) {l:List Value} {F:Fp},fV w m l F->∀f∈F,f.1 < w.heap.size
 |[],_,_,h=>by simp only[fV]at h;simp[h.2]
 |d::m,_,_,h=>by
  simp only[fV]at h;obtain⟨v,S,N,L,r,rfl,j,i⟩:=h;intro f a;rcases aS.1 a with a|a
  ·exact Rp.lt d j f a
  ·exact fV.lt m i f a
theorem fQ.lt{w:World}:∀(es:List (List D)) {l:List Value} {F:Fp},fQ w es l F->∀f∈F,f.1 < w.heap.size
 |[],_,_,h=>by simp only[fQ]at h;simp[h.2]
 |e::es,_,_,h=>by
  simp only[fQ]at h;obtain⟨v1,v2,N,L,r,rfl,j,i⟩:=h;intro f a;rcases aS.1 a with a|a
  ·exact fV.lt e j f a
  ·exact fQ.lt es i f a
end
theorem fV.append{w:World}:∀(a:M D) {es:M D} {c e:M Value} {F G:Fp},fV w a c F->fV w es e G->fV w (a++es) (c++e) (F++G)
 |[],_,_,_,_,_,h,b=>by
  simp only[fV]at h;obtain⟨rfl,rfl⟩:=h
  simpa using b
 |d::a,_,_,_,_,_,h,b=>by
  obtain⟨v,j,i,k,rfl,rfl,g,f⟩:=h;exact⟨v,_,i,_,rfl,by simp,g,fV.append a f b⟩
theorem fQ.append{w:World}:∀(a:M (M D)) {es:M (M D)} {c e:M Value} {F G:Fp},fQ w a c F->fQ w es e G->fQ w (a++es) (c++e) (F++G)
 |[],_,_,_,_,_,h,b=>by
  simp only[fQ]at h;obtain⟨rfl,rfl⟩:=h
  simpa using b
 |d::a,_,_,_,_,_,h,b=>by
  obtain⟨v1,v2,i,j,rfl,rfl,g,f⟩:=h;exact⟨v1,_,i,_,by simp,by simp,g,fQ.append a f b⟩
theorem fV.gE{w:World}:∀(c:M D) {es:M D} {b:M Value} {F:Fp},fV w (c++es) b F->∃v1 v2 a e,b=v1++v2/\F=a++e/\fV w c v1 a/\fV w es v2 e
 |[],es,b,F,h=>⟨[],b,[],F,rfl,rfl,by simp[fV],by simpa using h⟩
 |d::c,_,_,_,h=>by
  simp only[aq,fV]at h;obtain⟨v,n,a,e,rfl,rfl,m,l⟩:=h;obtain⟨f,i,g,G2,rfl,rfl,k,j⟩:=fV.gE c l;exact⟨v::f,i,a++g,G2,by simp,by simp,by simp only[fV];exact⟨v,f,a,g,rfl,rfl,m,k⟩,j⟩
theorem fQ.gE{w:World}:∀(c:M (M D)) {es:M (M D)} {b:M Value} {F:Fp},fQ w (c++es) b F->∃v1 v2 a e,b=v1++v2/\F=a++e/\fQ w c v1 a/\fQ w es v2 e
 |[],es,b,F,h=>⟨[],b,[],F,rfl,rfl,by simp[fQ],by simpa using h⟩
 |d::c,_,_,_,h=>by
  simp only[aq,fQ]at h;obtain⟨v1,v2,a,e,rfl,rfl,m,l⟩:=h;obtain⟨f,i,g,G2,rfl,rfl,k,j⟩:=fQ.gE c l;exact⟨v1++f,i,a++g,G2,by simp,by simp,by simp only[fQ];exact⟨v1,f,a,g,rfl,rfl,m,k⟩,j⟩
theorem fQ.at_{w:World}{k:Nat}{es:M (M D)}{b:M Value}{F:Fp}(h:fQ w es b F)(c:∀e∈es,e.length=k){i:Nat}{e:M D}(a:es[i]?=Z e) :
  ∃G,fV w e ((b.drop (i * k)).take k) G/\∀g∈G,g∈F:=by
 have t:=(bm.1 a).1;have p:es=es.take i++(e::es.drop (i+1)):=by
  rw[<- bm.1 a |>.2,List.getElem_cons_drop,bh]
 rw[p]at h;obtain⟨v1,v2,A,y,rfl,rfl,o,f⟩:=fQ.gE _ h;simp only[fQ]at f;obtain⟨l,s,r,G2,rfl,rfl,d,v⟩:=f;have j:v1.length=i * k:=by
  rw[fQ.length _ o (λx m=>c x (cz m)),bj,ei (by omega)]
 have q:l.length=k:=by rw[fV.length _ d];exact c e (gD a)
 refine⟨r,?_,λg n=>by simp[n]⟩;rw[<- j,xX,<- q,nX];exact d
theorem fV.at_{w:World}:∀{f:M D} {g:M Value} {F:Fp},fV w f g F->∀{i:Nat} {d:D},f[i]?=Z d->∃v G,g[i]?=Z v/\Rp w d v G/\∀c∈G,c∈F
 |[],_,_,_,i,d,b=>by simp at b
 |x::f,_,_,h,i,d,b=>by
  simp only[fV]at h;obtain⟨v,p,o,q,rfl,rfl,n,m⟩:=h;cases i with
  |zero=>simp at b;subst b;exact⟨v,o,rfl,n,λc e=>by simp[e]⟩
  |succ i=>
   obtain⟨a,G,l,k,j⟩:=fV.at_ m b;exact⟨a,G,by simpa using l,k,λc e=>by simp[j c e]⟩
theorem fV.drop{w:World}:∀(a:M D) {c:M Value} {F:Fp} (n:Nat),fV w a c F->∃G,fV w (a.drop n) (c.drop n) G/\∀b∈G,b∈F
 |a,_,F,0,h=>⟨F,by simpa using h,λ_ h=>h⟩
 |[],_,F,n+1,h=>⟨F,by simp only[fV]at h;simp[fV,h.1,h.2],λ_ h=>h⟩
 |d::a,_,_,n+1,h=>by
  simp only[fV]at h;obtain⟨v,k,m,l,rfl,rfl,j,i⟩:=h;obtain⟨G,g,f⟩:=fV.drop a n i;exact⟨G,by simpa using g,λb e=>by simp[f b e]⟩
theorem fV.take{w:World}:∀(b:M D) {e:M Value} {F:Fp} (n:Nat),fV w b e F->∃G,fV w (b.take n) (e.take n) G/\∀c∈G,c∈F
 |b,_,F,0,h=>⟨[],by simp[fV],λ_ h=>by simp at h⟩
 |[],_,F,n+1,h=>⟨F,by simp only[fV]at h;simp[fV,h.1,h.2],λ_ h=>h⟩
 |d::b,_,_,n+1,h=>by
  simp only[fV]at h;obtain⟨v,l,f,m,rfl,rfl,k,j⟩:=h;obtain⟨G,i,g⟩:=fV.take b n j;refine⟨f++G,?_,λc a=>?_⟩
  ·exact⟨v,_,f,G,rfl,rfl,k,i⟩
  ·rcases aS.1 a with a|a
   ·simp[a]
   ·simp[g c a]
theorem fV.plain{w:World}:∀{e:M D} {g:M Value} {F:Fp},fV w e g F->(∀x∈e,D.plain x=I)->F=[]
 |[],_,_,h,_=>by simp only[fV]at h;exact h.2
 |d::e,_,_,h,f=>by
  simp only[fV]at h;obtain⟨v,o,q,p,rfl,rfl,a,j⟩:=h;have c:=fV.plain j (λx i=>f x (by simp[i]));have l:=f d (by simp);cases d with
  |list k m es=>simp[D.plain]at l
  |int k n=>simp[Rp]at a;simp[a.2.1,c]
  |bool b=>simp[Rp]at a;simp[a.2,c]
  |str s=>simp[Rp]at a;simp[a.2.1,c]
theorem fQ.plain{w:World}:∀{es:M (M D)} {b:M Value} {F:Fp},fQ w es b F->flat es->F=[]
 |[],_,_,h,_=>by simp only[fQ]at h;exact h.2
 |e::es,_,_,h,a=>by
  simp only[fQ]at h;obtain⟨v1,v2,i,g,rfl,rfl,f,d⟩:=h;rw[fV.plain f (a e (by simp)),fQ.plain d (λx c=>a x (by simp[c]))];rfl
theorem Rp.rW{w:World}{d:D}{v:Value}{F:Fp}(h:Rp w d v F):one v=I:=by
 cases d with
 |int k n=>simp[Rp]at h;rw[h.1];rfl
 |bool b=>simp[Rp]at h;rw[h.1];rfl
 |str s=>simp[Rp]at h;rw[h.1];rfl
 |list k e es=>simp[Rp]at h;obtain⟨A,n,c,a,_⟩:=h;rw[a];rfl
theorem fV.rW{w:World}:∀{e:M D} {c:M Value} {F:Fp},fV w e c F->∀v∈c,one v=I
 |[],_,_,h=>by simp only[fV]at h;simp[h.1]
 |d::e,_,_,h=>by
  simp only[fV]at h;obtain⟨v,i,k,j,rfl,rfl,g,f⟩:=h;intro a b;rcases aP.1 b with rfl|b
  ·exact g.rW
  ·exact fV.rW f a b
theorem fQ.rW{w:World}:∀{es:M (M D)} {c:M Value} {F:Fp},fQ w es c F->∀v∈c,one v=I
 |[],_,_,h=>by simp only[fQ]at h;simp[h.1]
 |e::es,_,_,h=>by
  simp only[fQ]at h;obtain⟨v1,v2,i,g,rfl,rfl,f,d⟩:=h;intro a b;rcases aS.1 b with b|b
  ·exact f.rW a b
  ·exact fQ.rW d a b
end
section
structure Row where
 es:List (List D)
 k:Nat
 fl:Bool
 deep:Bool
 app:Bool
 fz:Bool
inductive C where
 |d (x:D)
 |nil (k:Nat) (fl:Bool)
 |ref (r:Nat)
 |ptr (b o:Nat)
 |oO (r k i o:Nat)
 |tN (cs:List D)
 |agg (cs:List C)
 |rf (cs:List C)
 |ug
 |any
instance:Inhabited C:=⟨.any⟩
mutual
def C.kill(i:Nat):C->C
 | .ref r=>if r=i then .any else .ref r
 | .ptr b o=>if b=i then .any else .ptr b o
 | .oO r k a o=>if r=i then .any else .oO r k a o
 | .agg cs=>.agg (C.jD i cs)
 | .rf cs=>.rf (C.jD i cs)
 |c=>c
def C.jD(i:Nat):List C->List C
 |[]=>[]
 |c::cs=>C.kill i c::C.jD i cs
end
inductive RV where
 |d (x:D)
 |row (r:Row)
inductive A where
 |val (agg:Bool) (cs:List RV)
 |box (cs:List RV)
structure St where
 sl:List (Nat×C)
 bx:List (Nat×List C)
 rw:List (Nat×Row)
def look{a:Type}:M (Nat×a)->Nat->u a
 |[],_=>O
 |(k,x)::l,d=>if k=d then Z x else look l d
def ru{a:Type}(l:M (Nat×a))(d:Nat):M (Nat×a):=l.filter (λp=>p.1 !=d)
def PS(i:Nat)(l:M (Nat×C)):M (Nat×C):=l.map λp=>(p.1,p.2.kill i)
def PQ(i:Nat)(l:M (Nat×M C)):M (Nat×M C):=l.map λp=>(p.1,C.jD i p.2)
def St.kill(s:St)(i:Nat):St:=⟨PS i s.sl,PQ i s.bx,s.rw⟩
def St.get(s:St)(d:Nat):C:=(look s.sl d).getD .any
def St.put(s:St)(a:u Nat)(c:C):St:=
 match a with
 |some d=>{s with sl:=(d,c)::s.sl }
 |none=>s
def St.gk(s:St)(b:Nat)(a:M C):St:={s with bx:=(b,a)::ru s.bx b }
def St.setRow(s:St)(r:Nat)(x:Row):St:={s with rw:=(r,x)::ru s.rw r }
def St.cQ(s:St)(r:Nat):St:={s with rw:=ru s.rw r }
def St.jQ(s:St)(b:Nat)(a:M C):St:=(s.kill b).gk b a
def St.newRow(s:St)(r:Nat)(x:Row):St:=(s.kill r).setRow r x
def um(d j:Nat):Nat:=1000 * (d+1)+j
inductive KX where
 |s (d:Nat)
 |k (c:C)
def fX(s:St):KX->C
 | .s d=>s.get d
 | .k c=>c
def C.cells:C->M C
 | .agg cs=>cs
 |c=>[c]
def nth{a:Type}:M a->Nat->u a
 |[],_=>O
 |x::_,0=>Z x
 |_::l,i+1=>nth l i
def C.const:C->Bool
 | .d x=>D.plain x
 | .nil _ _=>I
 |_=>J
def C.cell:C->Bool
 | .d _=>I
 | .nil _ _=>I
 | .ref _=>I
 |_=>J
def Fk:St->M C->u (M D×Bool×St)
 |s,[]=>Z ([],I,s)
 |s,c::cs=>
  match c with
  | .d x=>(Fk s cs).map λ(b,e,a)=>(x::b,D.plain x && e,a)
  | .nil k f=>(Fk s cs).map λ(b,e,a)=>(.list k f []::b,e,a)
  | .ref r=>
   match look s.rw r with
   |some x=>(Fk (s.cQ r) cs).map λ(b,e,a)=>(.list x.k x.fl x.es::b,x.deep && !x.fz && e,a)
   |none=>O
  |_=>O
def cD(a:M D):Bool:=a.all D.plain
def BY(k:Nat)(d:Bool):St->M C->u (M (M D)×Bool×St)
 |s,[]=>Z ([],I,s)
 |s,c::cs=>
  match Fk s c.cells with
  |some (a,g,e)=>if a.length=k/\(d=I->cD a=I) then (BY k d e cs).map λ(es,b,f)=>(a::es,g && b,f) else O
  |none=>O
def room:Nat:=140737488355328
inductive KO where
 |mv (x:KX)
 |pick (c x y:KX)
 |alloc (zs:List C)
 |box (x:KX)
 |build (zs:List C) (ps:List (Nat×Nat×KX))
 |qx (k:Nat) (fl:Bool) (xs:List KX)
 |Wt (k:Nat) (fl:Bool) (xs:List KX)
 |make (k by_:Nat) (fl:Bool) (zs:List D) (x:KX)
 |ld (n:Nat) (x:KX)
 |st (n:Nat) (x y:KX)
 |fa (o:Nat) (x:KX)
 |ia (k:Nat) (x i:KX)
 |XA (x i:KX)
 |bin (op:BinOp) (x y:KX)
 |TL (op:BinOp) (x y:KX)
 |not (x:KX)
 |neg (x:KX)
 |conv (k:IntKind) (x:KX)
 |len (x:KX)
 |sln (x:KX)
 |app (k by_:Nat) (fl:Bool) (x y:KX)
 |min (x y:KX)
 |max (x y:KX)
 |ext (x:KX) (i:Nat)
 |slc (x hi:KX)
 |nck (x:KX)
 |Mw (x:KX)
 |call (f:Nat) (xs:List KX)
 |cbx (f:Nat) (xs:List KX)
 |YF (f:Nat) (x y:KX)
 |cut (k:Nat) (x:KX) (lo hi:Option KX)
 |MI (x:KX) (lo hi:Option KX)
 |v8 (k:Nat) (x:KX) (lo hi:Option KX)
 |ixa (n k:Nat) (x i:KX)
 |Gn (k:Nat) (x y:KX)
 |zro (zs:List C)
 |jn (x y:KX)
 |zt (ins:Bool) (x i z:KX)
 |P9 (x:KX)
structure KI where
 dst:Option Nat
 op:KO
 gd:Option (Nat×Bool)
structure KD where
 j:Nat
 q:Bool
 al:List Nat
 dn:List Nat
 i:KI
inductive KT where
 |nil
 |op (x:KD) (t:KT)
 |alt (x:KD) (t r:KT)
structure n_ where
 s:List Nat
 b:List Nat
 r:List Nat
inductive K where
 |skip
 |QH (ops:List KI) (kp:n_)
 |UK (ops:KT) (kp:n_)
 |seq (a b:K)
 |cond (c:KX) (a b:K)
 |block (id:Nat) (a:K)
 |loop (a:K)
 |exit (id:Nat)
 |ret
 |share (r:Nat) (a:K)
 |Ci (d:Nat) (a:K)
inductive Ex where
 |norm
 |exit (id:Nat)
 |ret
def Re(op:BinOp)(k:IntKind)(a b:Int):u D:=
 match op with
 | .add=>Z (.int k (k.wrap (a+b)))
 | .sub=>Z (.int k (k.wrap (a - b)))
 | .mul=>Z (.int k (k.wrap (a * b)))
 | .lss=>Z (.bool (Z' (a < b)))
 | .leq=>Z (.bool (Z' (a<=b)))
 | .gtr=>Z (.bool (Z' (b < a)))
 | .geq=>Z (.bool (Z' (b<=a)))
 | .eql=>Z (.bool (Z' (a=b)))
 | .neq=>Z (.bool (!Z' (a=b)))
 | .quo=>if k=.i64/\0<=a/\1<=b then Z (.int k (a / b)) else if k=.i64/\a < 0/\1<=b then Z (.int k (-(-a / b))) else O
 | .rem=>if k=.i64/\0<=a/\1<=b then Z (.int k (a % b)) else if k=.i64/\a < 0/\1<=b then Z (.int k (-(-a % b))) else O
 | .and=>Z (.int k (k.wrap (dK k.bits a &&& dK k.bits b).toNat))
 | .xor=>Z (.int k (k.wrap (dK k.bits a ^^^ dK k.bits b).toNat))
 |_=>O
def Xz(op:BinOp)(k:IntKind)(a b:Int):u D:=
 match op with
 | .shr=>if k=.i64/\0<=b/\b<=63 then Z (.int k (a / 2 ^ b.toNat)) else O
 |_=>O
def kG(a b:z):Bool:=Op.bytesLess a.toList b.toList
def Rf(op:BinOp)(a b:z):u D:=
 match op with
 | .add=>if a.size+b.size<=maxLen then Z (.str (a++b)) else O
 | .eql=>Z (.bool (Z' (a=b)))
 | .neq=>Z (.bool (!Z' (a=b)))
 | .lss=>Z (.bool (kG a b))
 | .leq=>Z (.bool (kG a b ||decide (a=b)))
 | .gtr=>Z (.bool (!(kG a b ||decide (a=b))))
 | .geq=>Z (.bool (!kG a b))
 |_=>O
def Ul(op:BinOp)(a b:Bool):u D:=
 match op with
 | .eql=>Z (.bool (Z' (a=b)))
 | .neq=>Z (.bool (!Z' (a=b)))
 |_=>O
def Kf(op:BinOp):C->C->u C
 | .d (.int k a),.d (.int c b)=>if k=c then (Re op k a b).map .d else (Xz op k a b).map .d
 | .d (.str a),.d (.str b)=>(Rf op a b).map .d
 |_,_=>O
def mJ(s:St):C->u RV
 | .d x=>Z (.d x)
 | .nil k a=>Z (.d (.list k a []))
 | .ref r=>(look s.rw r).map λx=>.d (.list x.k x.fl x.es)
 |_=>O
def jT(s:St):C->u RV
 | .d x=>Z (.d x)
 | .nil k a=>Z (.row ⟨[],k,a,I,I,J⟩)
 | .ref r=>(look s.rw r).map .row
 |_=>O
def gJ{a β:Type}(f:a->u β):M a->u (M β)
 |[]=>Z []
 |x::xs=>match f x with
  |some y=>(gJ f xs).map (y::·)
  |none=>O
def C.isAgg:C->Bool
 | .agg _=>I
 |_=>J
def Oz(s:St)(c:C):u A:=
 match c with
 | .ptr b 0=>match look s.bx b with
  |some a=>(gJ (jT s) a).map .box
  |none=>O
 |c=>(gJ (mJ s) c.cells).map (.val c.isAgg)
def vu(s:St):M C->u (M A)
 |[]=>Z []
 |c::cs=>match Oz s c with
  |some a=>(vu s cs).map (a::·)
  |none=>O
def rowsOf:M C->M Nat
 |[]=>[]
 | .ref r::cs=>r::rowsOf cs
 |_::cs=>rowsOf cs
def qy(s:St):C->M Nat
 | .ptr b 0=>rowsOf ((look s.bx b).getD [])
 |_=>[]
def dR(s:St):M C->M Nat
 |[]=>[]
 |c::cs=>qy s c++dR s cs
def ji:M C->M Nat
 |[]=>[]
 |c::cs=>rowsOf c.cells++ji cs
def cO:M C->M Nat
 |[]=>[]
 | .ptr b _::cs=>b::cO cs
 |_::cs=>cO cs
def RV.closed:RV->Bool
 | .d x=>D.plain x
 | .row r=>r.deep
def A.closed:A->Bool
 | .val _ cs=>cs.all RV.closed
 | .box cs=>cs.all RV.closed
def Row.share(r:Row):Row:={r with fz:=I,deep:=r.fl }
def eE(s:St):M Nat->St
 |[]=>s
 |r::rs=>match look s.rw r with
  |some x=>eE (s.setRow r x.share) rs
  |none=>eE s rs
def er(d:Nat):Nat->M RV->St->M C×St
 |_,[],s=>([],s)
 |j,.d x::cs,s=>let (l,a):=er d (j+1) cs s;(.d x::l,a)
 |j,.row r::cs,s=>let (l,a):=er d (j+1) cs (s.newRow (um d j) r);(.ref (um d j)::l,a)
def l_(s:St):M C->M A->St
 | .ptr b 0::cs,.box a::outs=>let (l,c):=er (b+500) 0 a s;l_ (c.gk b l) cs outs
 | .ptr _ 0::_,_=>s
 |_::cs,outs=>l_ s cs outs
 |[],_=>s
def il(d:Nat):Nat->M A->St->M C×St
 |_,[],s=>([],s)
 |q,.val e a::rs,s=>
  let (l,c):=er d (30 * q) a s
  let (m,b):=il d (q+1) rs c
  ((if e then .agg l else l.headD .any)::m,b)
 |_,.box _::_,s=>([],s)
def kM:M Nat->Bool
 |[]=>I
 |x::xs=>!xs.contains x && kM xs
def fY(s:St):M Nat->St
 |[]=>s
 |r::rs=>fY (s.cQ r) rs
def mi{a:Type}(l:M a)(o:Nat)(n:M a):M a:=l.take o++n++l.drop (o+n.length)
def A.isVal:A->Bool
 | .val _ _=>I
 | .box _=>J
def A.short:A->Bool
 | .val _ cs=>gV cs.length 30
 | .box _=>J
def fW(s:St):M Nat->St
 |[]=>s
 |b::a=>fW {s with bx:=ru s.bx b } a
def Br(a:M C):M (Nat×Nat×M C)->u (M C)
 |[]=>Z a
 |(o,n,cs)::b=>if cs.length=n/\o+n<=a.length/\cs.all C.cell=I then Br (mi a o cs) b else O
def tG:M C->M Nat
 |[]=>[]
 |c::cs=>rowsOf c.cells++tG cs
def Ce(s:St)(a:M C):M Nat:=cO a++dR s a++ji a
def bytesOf:M (M D)->u (M Int)
 |[]=>Z []
 |[.int .u8 n]::es=>(bytesOf es).map (n::·)
 |_=>O
def kD(s:St):C->u D
 | .d x=>match x with
  | .list k a []=>Z (.list k a [])
  | .list _ _ _=>O
  |x=>Z x
 | .nil k a=>Z (.list k a [])
 | .ref r=>match look s.rw r with
  |some row=>if row.deep=I/\row.fz=J then Z (.list row.k row.fl row.es) else O
  |none=>O
 |_=>O
def uE(s:St):M C->u (M D)
 |[]=>Z []
 |c::cs=>match kD s c with
  |some x=>(uE s cs).map (x::·)
  |none=>O
def qo(s:St):M C->M D->St->u St
 |[],[],acc=>Z acc
 | .ref r::cs,.list k b es::a,acc=>match look s.rw r with
  |some row=>if k=row.k/\b=row.fl then qo s cs a (acc.setRow r ⟨es,row.k,row.fl,I,J,J⟩) else O
  |none=>O
 | .ref _::_,_,_=>O
 |_::cs,_::a,acc=>qo s cs a acc
 |_,_,_=>O
section
variable (cf:Nat->M A->u (M A×M A)) (mf:Nat->Bool->M D->Int->u (M D×Int))
def xl(s:St)(d:u Nat)(f:Nat)(a:M C):u St:=
 match vu s a with
 |none=>O
 |some as=>
  if kM (dR s a) && kM (cO a) && (dR s a).all (λr=>!(ji a).contains r) then
   match cf f as with
   |none=>O
   |some (rs,outs)=>if rs.all A.short then
    let h:=if rs.all A.closed && outs.all A.closed then s else eE s (ji a)
    let g:=fW (fY h (dR s a)) (cO a)
    let e:=l_ g a outs
    let (l,b):=il (d.getD 0) 0 rs e
    Z (b.put d (match l with|[c]=>c|l=>.rf l))
    else O
  else O
def sa(s:St)(o:u KX)(a:Nat):u Nat:=
 match o with
 |none=>Z a
 |some e=>match fX s e with
  | .d (.int .i64 n)=>if 0<=n then Z n.toNat else O
  |_=>O
def jm(s:St):KO->u C
 | .mv x=>Z (fX s x)
 | .pick c x y=>match fX s c with
  | .d (.bool b)=>Z (if b then fX s x else fX s y)
  |_=>O
 | .build g w=>(Br g (w.map λp=>(p.1,p.2.1,(fX s p.2.2).cells))).map .agg
 | .ld n x=>match fX s x with
  | .ptr b o=>match look s.bx b with
   |some f=>if n=0 then nth f o else if o+n<=f.length then Z (.agg ((f.drop o).take n)) else O
   |none=>O
  | .tN f=>if n=0 then (nth f 0).map .d else if n<=f.length then Z (.agg ((f.take n).map .d)) else O
  | .oO r k i o=>match look s.rw r with
   |some row=>match nth row.es i with
    |some e=>if row.k=k/\o+max n 1<=k/\(cD ((e.drop o).take (max n 1)) ||!row.deep)=I then
      (if n=0 then (nth e o).map .d else Z (.agg (((e.drop o).take n).map .d))) else O
    |none=>O
   |none=>O
  |_=>O
 | .fa o x=>match fX s x with
  | .ptr b p=>Z (.ptr b (p+o))
  | .tN f=>Z (.tN (f.drop o))
  | .oO r k i p=>Z (.oO r k i (p+o))
  |_=>O
 | .ia k x i=>match fX s x,fX s i with
  | .d (.list j _ es),.d (.int .i64 n)=>if 0<=n/\j=k then (nth es n.toNat).map .tN else O
  | .ref r,.d (.int .i64 n)=>match look s.rw r with
   |some row=>if 0<=n/\n.toNat < row.es.length/\row.k=k then Z (.oO r k n.toNat 0) else O
   |none=>O
  |_,_=>O
 | .zro g=>if g.all C.const then Z (.agg g) else O
 | .ixa n k x i=>match fX s x,fX s i with
  | .ptr b o,.d (.int .i64 m)=>if 0<=m/\m.toNat < n then Z (.ptr b (o+m.toNat * k)) else O
  |_,_=>O
 | .XA x i=>match fX s x,fX s i with
  | .d (.str t),.d (.int .i64 n)=>if 0<=n/\n.toNat < t.size then Z (.d (.int .u8 (cr t n.toNat))) else O
  |_,_=>O
 | .bin op x y=>Kf op (fX s x) (fX s y)
 | .TL op x y=>match fX s x,fX s y with
  | .d (.bool a),.d (.bool b)=>(Ul op a b).map .d
  |_,_=>O
 | .not x=>match fX s x with
  | .d (.bool b)=>Z (.d (.bool (!b)))
  |_=>O
 | .neg x=>match fX s x with
  | .d (.int k a)=>Z (.d (.int k (k.wrap (-a))))
  |_=>O
 | .conv k x=>match fX s x with
  | .d (.int _ a)=>Z (.d (.int k (k.wrap a)))
  |_=>O
 | .len x=>match fX s x with
  | .d (.list _ _ es)=>Z (.d (.int .i64 es.length))
  | .nil _ _=>Z (.d (.int .i64 0))
  | .ref r=>match look s.rw r with
   |some row=>Z (.d (.int .i64 row.es.length))
   |none=>O
  |_=>O
 | .sln x=>match fX s x with
  | .d (.str t)=>Z (.d (.int .i64 t.size))
  |_=>O
 | .min x y=>match fX s x,fX s y with
  | .d (.int .i64 a),.d (.int .i64 b)=>Z (.d (.int .i64 (if b < a then b else a)))
  |_,_=>O
 | .max x y=>match fX s x,fX s y with
  | .d (.int .i64 a),.d (.int .i64 b)=>Z (.d (.int .i64 (if a < b then b else a)))
  |_,_=>O
 | .ext x i=>match fX s x with
  | .rf f=>nth f i
  |_=>O
 | .slc x y=>match fX s x,fX s y with
  | .d (.list k q es),.d (.int .i64 n)=>if 0<=n/\n.toNat<=es.length then Z (.d (.list k q (es.take n.toNat))) else O
  |_,_=>O
 | .MI x h l=>match fX s x with
  | .d (.str t)=>match sa s h 0,sa s l t.size with
   |some a,Z b=>if a<=b/\b<=t.size then Z (.d (.str (t.extract a b))) else O
   |_,_=>O
  |_=>O
 | .v8 j x h l=>match fX s x with
  | .d (.list k q es)=>match sa s h 0,sa s l es.length with
   |some a,Z b=>if k=j/\a<=b/\b<=es.length then Z (.d (.list k q ((es.take b).drop a))) else O
   |_,_=>O
  |_=>O
 | .nck x=>match fX s x with
  | .ptr b o=>Z (.ptr b o)
  | .tN f=>Z (.tN f)
  | .oO r k i o=>Z (.oO r k i o)
  |_=>O
 | .Mw x=>match fX s x with
  | .ref r=>match look s.rw r with
   |some row=>if row.k=1 then (bytesOf row.es).map λv=>.d (.str ⟨(v.map λn=>dX n.toNat).toArray⟩) else O
   |none=>O
  |_=>O
 |_=>O
mutual
def C.iF(q i:Nat):C->C
 | .ref r=>if r=q then .ref i else if r=i then .any else .ref r
 | .oO r k a o=>if r=q then .oO i k a o else if r=i then .any else .oO r k a o
 | .agg cs=>.agg (C.A8 q i cs)
 | .rf cs=>.rf (C.A8 q i cs)
 |c=>c
def C.A8(q i:Nat):List C->List C
 |[]=>[]
 |c::cs=>C.iF q i c::C.A8 q i cs
end
def Xm(q i:Nat)(l:M (Nat×C)):M (Nat×C):=l.map λp=>(p.1,p.2.iF q i)
def Xl(q i:Nat)(l:M (Nat×M C)):M (Nat×M C):=l.map λp=>(p.1,C.A8 q i p.2)
def St.iF(s:St)(q i:Nat)(row:Row):St:=⟨Xm q i s.sl,Xl q i s.bx,(i,row)::ru (ru s.rw q) i⟩
def lk:M (M D)->u (M Bool)
 |[]=>Z []
 |[.bool b]::es=>(lk es).map (b::·)
 |_=>O
def dM:M Bool->M Bool->M Bool
 |a::as,b::c=>(a ||b)::dM as c
 |as,_=>as
def nd:M Bool->M Bool->Bool
 |a::as,b::c=>(b && !a) ||nd as c
 |_,_=>J
def GZ(s:St)(r:Nat):C->u (M (M D))
 | .d (.list 1 _ es)=>Z es
 | .ref q=>match look s.rw q with
  |some row=>if row.k=1/\q≠r then Z row.es else O
  |none=>O
 |_=>O
def m_(s:St)(k:Nat)(a:Bool):C->u (M (M D)×Bool×St)
 | .d (.list c b es)=>if c=k/\b=a then Z (es,a,s) else O
 | .nil _ _=>Z ([],I,s)
 | .ref q=>match look s.rw q with
  |some row=>if row.k=k/\row.fl=a then Z (row.es,(row.deep && !row.fz) ||a,s.cQ q) else O
  |none=>O
 |_=>O
def xT(s:St)(ins:Bool)(a:Int):C->u (Int×M (M D)×Bool×St)
 | .d (.int .i64 b)=>if ins=J/\a < b then Z (b,[],I,s) else O
 | .ref q=>match look s.rw q with
  |some row=>if ins=I/\row.k=3/\row.fl=J/\row.app=I/\row.es≠[] then Z (a,row.es,row.deep && !row.fz,s.cQ q) else O
  |none=>O
 |_=>O
def M5(s:St):C->C
 | .ref r=>match look s.rw r with
  |some x=>.d (.list x.k x.fl x.es)
  |none=>.ref r
 | .nil k a=>.d (.list k a [])
 |c=>c
def oZ(s:St)(d:Nat):u St:=
 match s.get d with
 | .ref r=>match look s.rw r with
  |some x=>Z ((eE s [r]).put (Z d) (.d (.list x.k x.fl x.es)))
  |none=>O
 | .nil k c=>Z (s.put (Z d) (.d (.list k c [])))
 | .ptr b 0=>match look s.bx b with
  |some a=>Z ((eE s (rowsOf a)).gk b (a.map (M5 s)))
  |none=>Z s
 |_=>Z s
def ky(s:St)(d:u Nat):KO->u St
 | .alloc w=>match d with
  |some b=>if w.all C.const then Z ((s.jQ b w).put d (.ptr b 0)) else O
  |none=>O
 | .box x=>match d with
  |some b=>if (fX s x).cells.all C.cell then Z ((s.jQ b (C.jD b (fX s x).cells)).put d (.ptr b 0)) else O
  |none=>O
 | .qx k h xs=>match d with
  |some r=>match BY k h s (xs.map (fX s)) with
   |some (es,l,j)=>if 0 < k then Z ((j.newRow r ⟨es,k,h,l,I,J⟩).put d (.ref r)) else O
   |none=>O
  |none=>O
 | .Wt k h xs=>match d with
  |some r=>match BY k h s (xs.map (fX s)) with
   |some (es,l,j)=>if 0 < k then oZ ((j.newRow r ⟨es,k,h,l,I,J⟩).put (Z r) (.ref r)) r else O
   |none=>O
  |none=>O
 | .make k m h w x=>match d,fX s x with
  |some r,.d (.int .i64 n)=>if 0<=n/\n.toNat * m<=room/\n<=4611686018427387904 then Z ((s.newRow r ⟨bc n.toNat w,k,h,I,I,J⟩).put d (.ref r)) else O
  |_,_=>O
 | .st n x y=>match fX s x with
  | .ptr b o=>match look s.bx b with
   |some v=>if (fX s y).cells.all C.cell=I/\(fX s y).cells.length=n/\o+n<=v.length then Z (s.gk b (mi v o (fX s y).cells)) else O
   |none=>O
  | .oO r k i o=>match Fk s (fX s y).cells with
   |some (t,l,j)=>match look j.rw r with
    |some row=>match nth row.es i with
     |some e=>if row.k=k/\row.fz=J/\row.app=I/\t.length=n/\o+n<=k/\(row.fl=I->cD t=I)/\(l ||!row.deep)=I then
       Z (j.setRow r {row with es:=row.es.set i (mi e o t) }) else O
     |none=>O
    |none=>O
   |none=>O
  |_=>O
 | .app k m h x y=>match d with
  |none=>O
  |some d0=>match m_ s k h (fX s y) with
   |none=>O
   |some (es,l,j)=>match fX s x with
    | .nil p B=>if p=k/\B=h/\es.length * m<=room/\es.length<=maxLen then Z ((j.newRow d0 ⟨es,k,h,l,I,J⟩).put d (.ref d0)) else O
    | .ref r=>match look j.rw r with
     |some row=>if row.k=k/\row.fl=h/\row.app=I/\(row.es.length+es.length) * m<=room/\row.es.length+es.length<=maxLen then
       Z ((j.newRow r {row with es:=row.es++es,deep:=row.deep && l }).put d (.ref r)) else O
     |none=>O
    |_=>O
 | .call f xs=>xl cf s d f (xs.map (fX s))
 | .cbx f xs=>match d,vu s (xs.map (fX s)) with
  |some b,Z as=>if as.all A.isVal then (match cf f as with
    |some ([.box G],[])=>Z (((er (b+500) 0 G (eE s (ji (xs.map (fX s))))).2.jQ b (er (b+500) 0 G (eE s (ji (xs.map (fX s))))).1).put (Z b) (.ptr b 0))
    |_=>O) else O
  |_,_=>O
 | .cut k x F H=>match d with
  |none=>O
  |some _=>match fX s x with
   | .nil p h=>match sa s F 0,sa s H 0 with
    |some a,Z b=>if p=k/\a=0/\b=0 then Z (s.put d (.nil p h)) else O
    |_,_=>O
   | .ref r=>match look s.rw r with
    |some row=>match sa s F 0,sa s H row.es.length with
     |some a,Z b=>if row.k=k/\a<=b/\b<=row.es.length/\row.fz=J then Z ((s.newRow r {row with es:=(row.es.take b).drop a,app:=row.app && F.isNone }).put d (.ref r)) else O
     |_,_=>O
    |none=>O
   |_=>O
 | .Gn k x y=>match d,fX s x,fX s y with
  |some d0,.ref r,.d (.list p B es)=>match look s.rw r with
   |some row=>if row.k=k/\p=k/\B=I/\row.fl=I/\row.fz=J/\row.app=I/\es.length=row.es.length then
     Z ((s.setRow r {row with es:=es }).put (Z d0) (.d (.int .i64 es.length))) else O
   |none=>O
  |_,_,_=>O
 | .P9 x=>match d with
  |some d0=>match fX s x with
   | .ref q=>match look s.rw q with
    |some row=>Z ((s.iF q (um d0 0) row).put (Z d0) (.ref (um d0 0)))
    |none=>O
   |c=>Z (s.put (Z d0) c)
  |none=>O
 | .jn x y=>match d,fX s x with
  |some d0,.ref r=>match look s.rw r,GZ s r (fX s y) with
   |some row,Z es=>if row.k=1/\row.fl=I/\row.fz=J/\row.app=I/\es.length=row.es.length then
     (match lk row.es,lk es with
     |some K,Z v=>if es≠[] then Z ((s.setRow r {row with es:=(dM K v).map λb=>[D.bool b] }).put (Z d0) (.d (.bool (nd K v)))) else O
     |_,_=>O) else O
   |_,_=>O
  |_,_=>O
 | .zt ins x i g=>match d,fX s i with
  |some d0,.d (.int .i64 a)=>match xT s ins a (fX s g) with
   |some (b,es,l,j)=>match fX s x with
    | .ref r=>match look j.rw r with
     |some row=>if row.k=3/\row.fl=J/\row.app=I/\row.fz=J/\0<=a/\b<=row.es.length/\(row.es.length+es.length) * 56<=room then
       Z ((j.newRow r {row with es:=row.es.take a.toNat++es++row.es.drop b.toNat,deep:=row.deep && l }).put d (.ref r)) else O
     |none=>O
    |_=>O
   |none=>O
  |_,_=>O
 | .YF f x y=>match d,fX s y with
  |some d0,.d (.int .i64 q)=>match uE s (fX s x).cells with
   |some t=>if kM (rowsOf (fX s x).cells) then (match mf f (fX s x).isAgg t q with
    |some (P,N)=>(qo s (fX s x).cells P (fY s (rowsOf (fX s x).cells))).map λL=>L.put (Z d0) (.d (.int .i64 N))
    |none=>O) else O
   |none=>O
  |_,_=>O
 |_=>O
def KO.pU:KO->Bool
 | .alloc _=>J
 | .box _=>J
 | .qx _ _ _=>J
 | .Wt _ _ _=>J
 | .make _ _ _ _ _=>J
 | .st _ _ _=>J
 | .app _ _ _ _ _=>J
 | .call _ _=>J
 | .cbx _ _=>J
 | .YF _ _ _=>J
 | .cut _ _ _ _=>J
 | .Gn _ _ _=>J
 | .jn _ _=>J
 | .zt _ _ _ _=>J
 | .P9 _=>J
 |_=>I
def Cq(s:St)(d:u Nat)(o:KO):u St:=
 if o.pU then (jm s o).map (s.put d) else ky cf mf s d o
def vG(s:St)(i:KI):u St:=
 match i.gd with
 |none=>Cq cf mf s i.dst i.op
 |some (g,want)=>match s.get g with
  | .d (.bool b)=>if b=want then Cq cf mf s i.dst i.op else Z (s.put i.dst .ug)
  | .ug=>Z (s.put i.dst .ug)
  |_=>O
def mQ:M KI->St->u St
 |[],s=>Z s
 |i::is,s=>match vG cf mf s i with
  |some a=>mQ is a
  |none=>O
def KO.Nx:KO->Bool
 | .ld _ _=>I
 | .Mw _=>I
 |_=>J
def qw(s:St):KO->u (u Nat)
 | .ld _ x=>match fX s x with
  | .ptr b _=>Z (Z b)
  | .tN _=>Z O
  |_=>O
 | .Mw _=>O
 |_=>Z O
def eY(s:St)(d:u Nat):KO->M Nat
 | .st _ x y=>(match fX s x with
   | .ptr b _=>[b]
   | .oO r _ _ _=>r::rowsOf (fX s y).cells
   |_=>[])
 | .qx _ _ xs=>d.toList++tG (xs.map (fX s))
 | .Wt _ _ xs=>d.toList++tG (xs.map (fX s))
 | .app _ _ _ x y=>d.toList++rowsOf [fX s x]++rowsOf [fX s y]
 | .call f xs=>Ce s (xs.map (fX s))
 | .YF _ x _=>rowsOf (fX s x).cells
 | .cut _ x _ _=>d.toList++rowsOf [fX s x]
 | .Gn _ x _=>d.toList++rowsOf [fX s x]
 | .jn x _=>d.toList++rowsOf [fX s x]
 | .zt _ x _ a=>d.toList++rowsOf [fX s x]++rowsOf [fX s a]
 |_=>d.toList
def p7(c:M Nat)(a:M (M Nat×Nat)):u Nat->M (M Nat×Nat)
 |some b=>(c,b)::a
 |none=>a
def kt(j:Nat)(a:M (M Nat×Nat)):M (M Nat×Nat):=a.filter λp=>!p.1.contains j
def iV{a:Type}(l:M (Nat×a)):M Nat->M (Nat×a)
 |[]=>[]
 |d::b=>match look l d with
  |some x=>(d,x)::iV l b
  |none=>iV l b
def St.eB(s:St)(a:n_):St:=⟨iV s.sl a.s,iV s.bx a.b,iV s.rw a.r⟩
def ny(x:KD)(a:M (M Nat×Nat))(s:St)(k:M (M Nat×Nat)->St->u St):u St:=
 match vG cf mf s x.i with
 |some b=>if (kt x.j a).all (λp=>!(eY s x.i.dst x.i.op).contains p.2 && (look b.bx p.2).isSome && !(x.i.dst ==Z p.2)) then k (kt x.j a) b else O
 |none=>O
open Classical in
noncomputable def both{c:Type}:u c->u c->u c
 |some a,Z b=>if a=b then Z a else O
 |_,_=>O
noncomputable def gQ(e:n_):KT->M (M Nat×Nat)->St->u St
 | .nil,_,s=>Z (s.eB e)
 | .op ⟨j,quiet,h,f,i⟩ is,a,s=>
  if quiet then
   (match i.gd with
   |none=>(match jm s i.op,qw s i.op with
    |some c,Z b=>gQ e is (p7 f a b) (s.put i.dst c)
    |_,_=>O)
   |some (g,want)=>match s.get g with
    | .d (.bool t)=>if t=want then (match jm s i.op,qw s i.op with
      |some c,Z b=>gQ e is (p7 f a b) (s.put i.dst c)
      |_,_=>O) else gQ e is a (s.put i.dst .ug)
    | .ug=>gQ e is a (s.put i.dst .ug)
    |_=>O)
  else ny cf mf ⟨j,quiet,h,f,i⟩ a s (gQ e is)
 | .alt x is r,a,s=>both (ny cf mf x a s (gQ e is)) (gQ e r a s)
def iter(f:St->u (Ex×St)):Nat->St->u (Ex×St)
 |0,_=>O
 |n+1,s=>match f s with
  |some (.norm,a)=>iter f n a
  |r=>r
noncomputable def iR(n:Nat):K->St->u (Ex×St)
 | .skip,s=>Z (.norm,s)
 | .QH ops f,s=>match mQ cf mf ops s with
  |some e=>Z (.norm,e.eB f)
  |none=>O
 | .UK ops f,s=>match gQ cf mf f ops [] s with
  |some e=>Z (.norm,e)
  |none=>O
 | .seq a b,s=>match iR n a s with
  |some (.norm,e)=>iR n b e
  |r=>r
 | .cond c a b,s=>match fX s c with
  | .d (.bool t)=>if t then iR n a s else iR n b s
  |_=>O
 | .block id a,s=>match iR n a s with
  |some (.exit i,e)=>if i=id then Z (.norm,e) else Z (.exit i,e)
  |r=>r
 | .loop a,s=>iter (iR n a) n s
 | .exit id,s=>Z (.exit id,s)
 | .ret,s=>Z (.ret,s)
 | .share r a,s=>iR n a (eE s [r])
 | .Ci d a,s=>match oZ s d with
  |some e=>iR n a e
  |none=>O
end
inductive KR where
 |t (d:Nat)
 |b (d:Nat)
 |c (d n:Nat)
structure KF where
 np:Nat
 body:K
 res:List KR
def Ah(p:Nat)(a:A)(s:St):St:=
 match a with
 | .val d b=>let (l,c):=er p 0 b s;c.put (Z p) (if d then .agg l else l.headD .any)
 | .box b=>let (l,c):=er (p+500) 0 b s;(c.jQ (900+p) l).put (Z p) (.ptr (900+p) 0)
def lS:Nat->M A->St->St
 |_,[],s=>s
 |p,a::as,s=>lS (p+1) as (Ah p a s)
def Ez (s : St) : KR -> u (A × M Nat)
  | .t d => (gJ (jT s) (s.get d).cells).map λa => (.val (s.get d).isAgg a, rowsOf (s.get d).cells)
  | .b _ => O
  | .c d n => match s.get d with
   | .ptr b 0 => match look s.bx b with
    | some cs => if n = 0 then (match cs with
        | [c] => (gJ (jT s) cs).map λa => (.val J a, rowsOf cs)
        | _ => O)
      else if cs.length = n then (gJ (jT s) cs).map λa => (.val I a, rowsOf cs) else O
    | none => O
   | _ => O
def wX(s:St):M KR->u (M A×M Nat)
 |[]=>Z ([],[])
 |r::rs=>match Ez s r with
  |some (a,l)=>(wX s rs).map λ(as,b)=>(a::as,l++b)
  |none=>O
def S7(s:St)(p:Nat):A->u (M A×M Nat)
 | .val _ _=>Z ([],[])
 | .box _=>match look s.bx (900+p) with
  |some a=>(gJ (jT s) a).map λb=>([.box b],rowsOf a)
  |none=>O
def vi(s:St):Nat->M A->u (M A×M Nat)
 |_,[]=>Z ([],[])
 |p,a::as=>match S7 s p a with
  |some (l,r)=>(vi s (p+1) as).map λ(c,b)=>(l++c,r++b)
  |none=>O
def xE(a:M KR)(args:M A)(s:St):u (M A×M A):=
 match a with
 |[.b d]=>if args.all A.isVal then (match s.get d with
  | .ptr b 0=>match look s.bx b with
   |some c=>if kM (rowsOf c) then (gJ (jT s) c).map λe=>([.box e],[]) else O
   |none=>O
  |_=>O) else O
 |_=>O
def leave(kf:KF)(args:M A)(s:St):u (M A×M A):=
 match wX s kf.res,vi s 0 args with
 |some (rs,l),Z (outs,a)=>if kM (l++a) then Z (rs,outs) else O
 |_,_=>xE kf.res args s
noncomputable def FM(b:Nat->M A->u (M A×M A))(a:Nat->Bool->M D->Int->u (M D×Int))(n:Nat)(kf:KF)(args:M A):u (M A×M A):=
 if args.length=kf.np then
  match iR b a n kf.body (lS 0 args ⟨[],[],[]⟩) with
  |some (.norm,s)=>leave kf args s
  |some (.ret,s)=>leave kf args s
  |_=>O
 else O
def SW(t:z):M (M D)->Int->u Int
 |[],_=>Z (-1)
 |(.str s::_)::es,i=>if s=t then Z i else SW t es (i+1)
 |_,_=>O
def XT(f:Nat)(as:M A):u (M A×M A):=
 if f=9001 then (match as with
  |[.val J [.d (.int .i64 n)]]=>Z ([.val J [.d (.str ⟨(Lib.itoa n).toArray⟩)]],[])
  |_=>O)
 else if f=9002 then (match as with
  |[.val J [.d (.str s)],.val J [.d (.int .u8 c)]]=>Z ([.val J [.d (.int .i64 (Lib.indexByte s.data.toList c.toNat.toUInt8))]],[])
  |_=>O)
 else if f=9003 then (match as with
  |[.val J [.d (.list 3 a es)],.val J [.d (.str t)]]=>(SW t es 0).map λi=>([.val J [.d (.int .i64 i)]],[])
  |_=>O)
 else O
noncomputable def Bq(T:Nat->u KF):Nat->Nat->M A->u (M A×M A)
 |0,_,_=>O
 |n+1,f,args=>match T f with
  |none=>O
  |some kf=>if kf.np=999 then XT f args else FM (Bq T n) (λ_ _ _ _=>O) n kf args
end
section
open Go.RowKit
inductive Own where
 |free
 |box (b:Nat)
 |row (r:Nat)
 |fP
 deriving DecidableEq
structure Gh where
 h:Nat->Nat
 β:Nat->Nat
 sl:Nat->Value
 ω:Nat->Own
def eM(h:Nat->Nat)(F:Fp):Prop:=∀a∈F,a.2<=h a.1
def oX(w:World)(g:Nat):Prop:=g < w.heap.size/\∀j,w.frozen? ⟨g,j,O⟩=J
mutual
def CR(γ:Gh)(w:World):C->Value->Prop
 | .d x,v=>∃F,Rp w x v F/\eM γ.h F
 | .nil k _,v=>v=.slice O 0 0/\0 < k
 | .ref r,v=>v=γ.sl r/\∃A n c,v=.slice A n c
 | .ptr b o,v=>v=.pointer (Z ⟨γ.β b,o,O⟩)
 | .oO r k i o,v=>∃g p n c,γ.sl r=.slice (Z ⟨g,p,O⟩) n c/\v=.pointer (Z ⟨g,p+i * k+o,O⟩)
 | .tN cs,v=>∃b o a F,v=.pointer (Z ⟨b,o,O⟩)/\fV w cs a F/\eM γ.h F/\jo w b o a/\∀j,j < cs.length->o+j < γ.h b
 | .agg cs,v=>∃a,v=.agg a.toArray/\fF γ w cs a
 | .rf cs,v=>∃a,v=.tuple a.toArray/\fF γ w cs a
 | .ug,v=>v=undef
 | .any,_=>True
def fF(γ:Gh)(w:World):List C->List Value->Prop
 |[],a=>a=[]
 |c::cs,a=>∃v e,a=v::e/\CR γ w c v/\fF γ w cs e
end
def oW(h:Nat->Nat)(w:World)(x:Row)(v:Value)(F:M Nat):Prop:=
 ∃A n c,v=.slice A n c/\n=x.es.length/\n<=c/\c<=maxLen/\0 < x.k/\(∀e∈x.es,e.length=x.k)/\(x.fl=I->flat x.es)/\
  ((A=O/\c=0/\F=[])\/
   ∃g o a G,A=Z ⟨g,o,O⟩/\g < w.heap.size/\oX w g/\fQ w x.es a G/\jo w g o a/\h g<=o+n * x.k/\(x.fz=J->h g=0)/\
    (x.app=I->o=0/\∃T b,kQ w g T b/\b.length=c * x.k)/\
    (x.deep=I->F=g::G.map eK/\∀d∈G,h d.1=0/\oX w d.1)/\(x.deep=J->F=[g]/\eM h G))
structure Inv (γ:Gh) (h0:Nat->Nat) (io:List Nat) (w0:World) (s:St) (f:Fm) (w:World):Prop where
 sl:∀d c,look s.sl d=some c->CR γ w c (f d)
 bx:∀b cs,look s.bx b=some cs->∃T vs,kQ w (γ.β b) T vs/\fF γ w cs vs/\γ.ω (γ.β b)=.box b
 rw:∀r x,look s.rw r=some x->∃F,oW γ.h w x (γ.sl r) F/\F.Nodup/\∀g∈F,γ.ω g=.row r
 own:∀g,γ.ω g≠.free->g < w.heap.size/\(w0.heap.size<=g\/g∈io)
 nE:∀g b,γ.ω g=.box b->γ.h g=0
 gy:∀g,w.heap.size<=g->γ.h g=0
 os:w.os=w0.os
 tape:w.tape=w0.tape
 output:w.output=w0.output
 size:w0.heap.size<=w.heap.size
 frame:∀g,g < w0.heap.size->g∉io->w.heap[g]?=w0.heap[g]?
 cell:∀g j,g < w0.heap.size->j < h0 g->w.cell? ⟨g,j,none⟩=w0.cell? ⟨g,j,none⟩
 mono:∀g,g < w0.heap.size->h0 g<=γ.h g
 hold:∀g,g < w0.heap.size->g∉io->γ.h g=h0 g
 gW:∀g,oX w0 g->oX w g
section
variable {α:Type}
theorem fg(l:M (Nat×α))(d e:Nat):look (ru l d) e=if d=e then O else look l e:=by
 induction l with
 |nil=>simp[ru,look]
 |cons p l b=>
  obtain⟨k,x⟩:=p;unfold ru at b ⊢;by_cases h:k=d
  ·subst h;simp only[List.filter_cons,bne_self_eq_false,aC,if_false,b,look];by_cases a:k=e<;>simp[a]
  ·have c:(k !=d)=I:=by simp[h]
   simp only[List.filter_cons,c,if_true,look,b];by_cases a:k=e
   ·subst a;simp[n9 h]
   ·simp[a]
theorem r6(l:M (Nat×α)):∀(a:M Nat) (e:Nat) (x:α),look (iV l a) e=Z x->look l e=Z x
 |[],e,x,h=>by simp[iV,look]at h
 |d::a,e,x,h=>by
  unfold iV at h;cases hd:look l d with
  |none=>rw[hd]at h;exact r6 l a e x h
  |some y=>
   rw[hd]at h;simp only[look]at h
   split at h
   ·rename_i b;subst b;rw[hd];exact h
   ·exact r6 l a e x h
end
theorem xG(i:Nat)(l:M (Nat×C))(d:Nat):look (PS i l) d=(look l d).map (C.kill i):=by
 induction l with
 |nil=>rfl
 |cons p l a=>
  obtain⟨k,x⟩:=p;unfold PS at a ⊢;simp only[aW,look,a]
  split<;>rfl
theorem xF(i:Nat)(l:M (Nat×M C))(d:Nat):look (PQ i l) d=(look l d).map (C.jD i):=by
 induction l with
 |nil=>rfl
 |cons p l a=>
  obtain⟨k,x⟩:=p;unfold PQ at a ⊢;simp only[aW,look,a]
  split<;>rfl
theorem eM.mono{h a:Nat->Nat}{F:Fp}(b:eM h F)(c:∀g,h g<=a g):eM a F:=λe d=>aL (b e d) (c _)
theorem eM.keeps{h:Nat->Nat}{F:Fp}{w a:World}(b:eM h F)(d:∀g j,j < h g->a.cell? ⟨g,j,O⟩=w.cell? ⟨g,j,O⟩):uv F w a:=
 λf e j c=>d _ j (cA c (b f e))
theorem eM.sub{h:Nat->Nat}{F G:Fp}(b:eM h F)(c:∀a∈G,a∈F):eM h G:=λa d=>b a (c a d)
theorem eM.append{h:Nat->Nat}{F G:Fp}(c:eM h F)(d:eM h G):eM h (F++G):=λb a=>by
 rcases aS.1 a with a|a
 ·exact c b a
 ·exact d b a
mutual
theorem CR.move{γ f:Gh}{w y:World}(i:Nat)(p:∀g,γ.h g<=f.h g)(q:∀g j,j < γ.h g->y.cell? ⟨g,j,O⟩=w.cell? ⟨g,j,O⟩)(t:∀b,b≠i->f.β b=γ.β b)(s:∀r,r≠i->f.sl r=γ.sl r) :
  ∀(c:C) {v:Value},CR γ w c v->CR f y (C.kill i c) v
 | .d x,v,h=>by
  simp only[CR,C.kill]at h ⊢;obtain⟨F,n,l⟩:=h;exact⟨F,n.eB x (l.keeps q),l.mono p⟩
 | .nil _ _,v,h=>by simpa only [CR,C.kill] using h
 | .ref r,v,h=>by
  simp only[C.kill];split
  ·simp only[CR]
  ·rename_i A;simp only[CR]at h ⊢;rw[s r A];exact h
 | .ptr b o,v,h=>by
  simp only[C.kill];split
  ·simp only[CR]
  ·rename_i A;simp only[CR]at h ⊢;rw[t b A];exact h
 | .oO r k a o,v,h=>by
  simp only[C.kill];split
  ·simp only[CR]
  ·rename_i A;simp only[CR]at h ⊢;rw[s r A];exact h
 | .tN cs,v,h=>by
  simp only[CR,C.kill]at h ⊢;obtain⟨b,o,m,F,n,l,D,K,H⟩:=h;refine⟨b,o,m,F,n,l.eB cs (D.keeps q),D.mono p,?_,λj B=>cA (H j B) (p b)⟩;intro j e G;have B:=(bm.1 G).1;rw[fV.length cs l]at B;rw[q b (o+j) (H j B)];exact K j e G
 | .agg cs,v,h=>by
  simp only[CR,C.kill]at h ⊢;obtain⟨m,n,l⟩:=h;exact⟨m,n,fF.move i p q t s cs l⟩
 | .rf cs,v,h=>by
  simp only[CR,C.kill]at h ⊢;obtain⟨m,n,l⟩:=h;exact⟨m,n,fF.move i p q t s cs l⟩
 | .ug,v,h=>by simpa only [CR,C.kill] using h
 | .any,v,h=>by simp only[CR,C.kill]
theorem fF.move{γ f:Gh}{w y:World}(i:Nat)(p:∀g,γ.h g<=f.h g)(q:∀g j,j < γ.h g->y.cell? ⟨g,j,O⟩=w.cell? ⟨g,j,O⟩)(t:∀b,b≠i->f.β b=γ.β b)(s:∀r,r≠i->f.sl r=γ.sl r) :
  ∀(cs:List C) {m:List Value},fF γ w cs m->fF f y (C.jD i cs) m
 |[],m,h=>by simpa only [fF,C.jD] using h
 |c::cs,m,h=>by
  simp only[fF,C.jD]at h ⊢;obtain⟨v,L,n,l,D⟩:=h;exact⟨v,L,n,CR.move i p q t s c l,fF.move i p q t s cs D⟩
end
mutual
theorem CR.mono{γ γ':Gh}{w s:World}(m:∀g,γ.h g<=γ'.h g)(n:∀g j,j < γ.h g->s.cell? ⟨g,j,O⟩=w.cell? ⟨g,j,O⟩)(q:γ'.β=γ.β)(p:γ'.sl=γ.sl) :
  ∀(c:C) {v:Value},CR γ w c v->CR γ' s c v
 | .d x,v,h=>by
  simp only[CR]at h ⊢;obtain⟨F,l,f⟩:=h;exact⟨F,l.eB x (f.keeps n),f.mono m⟩
 | .nil _ _,v,h=>by simpa only [CR] using h
 | .ref r,v,h=>by simp only[CR]at h ⊢;rw[p];exact h
 | .ptr b o,v,h=>by simp only[CR]at h ⊢;rw[q];exact h
 | .oO r k a o,v,h=>by simp only[CR]at h ⊢;rw[p];exact h
 | .tN cs,v,h=>by
  simp only[CR]at h ⊢;obtain⟨b,o,i,F,l,f,y,D,B⟩:=h;refine⟨b,o,i,F,l,f.eB cs (y.keeps n),y.mono m,?_,λj t=>cA (B j t) (m b)⟩;intro j e A;have t:=(bm.1 A).1;rw[fV.length cs f]at t;rw[n b (o+j) (B j t)];exact D j e A
 | .agg cs,v,h=>by
  simp only[CR]at h ⊢;obtain⟨i,l,f⟩:=h;exact⟨i,l,fF.mono m n q p cs f⟩
 | .rf cs,v,h=>by
  simp only[CR]at h ⊢;obtain⟨i,l,f⟩:=h;exact⟨i,l,fF.mono m n q p cs f⟩
 | .ug,v,h=>by simpa only [CR] using h
 | .any,v,h=>by simp only[CR]
theorem fF.mono{γ γ':Gh}{w s:World}(m:∀g,γ.h g<=γ'.h g)(n:∀g j,j < γ.h g->s.cell? ⟨g,j,O⟩=w.cell? ⟨g,j,O⟩)(q:γ'.β=γ.β)(p:γ'.sl=γ.sl) :
  ∀(cs:List C) {i:List Value},fF γ w cs i->fF γ' s cs i
 |[],i,h=>by simpa only [fF] using h
 |c::cs,i,h=>by
  simp only[fF]at h ⊢;obtain⟨v,G,l,f,y⟩:=h;exact⟨v,G,l,CR.mono m n q p c f,fF.mono m n q p cs y⟩
end
theorem oW.eB{h r:Nat->Nat}{w k:World}{x:Row}{v:Value}{F:M Nat}(B:oW h w x v F)(i:∀g∈F,r g=h g/\k.heap[g]?=w.heap[g]?)(K:∀g,h g<=r g)(L:∀g j,j < h g->k.cell? ⟨g,j,O⟩=w.cell? ⟨g,j,O⟩):oW r k x v F:=by
 obtain⟨A,n,c,W,V,U,S,R,Q,P,q⟩:=B;refine⟨A,n,c,W,V,U,S,R,Q,P,?_⟩;rcases q with q|⟨g,o,s,G,a1,a2,a3,a4,a5,a6,Y,X,a9,l⟩
 ·exact .inl q
 ·have p:g∈F:=by
   cases hd:x.deep with
   |true=>rw[(a9 hd).1];simp
   |false=>rw[(l hd).1];simp
  have f:=(i g p).2;have H:uv G w k:=by
   cases hd:x.deep with
   |false=>exact (l hd).2.keeps L
   |true=>
    intro a d j _;exact World.cell?_of_block (w:=w) (i a.1 (by rw[(a9 hd).1];simp;exact .inr ⟨a.2,d⟩)).2
  refine .inr ⟨g,o,s,G,a1,Ja a2 f,?_,a4.eB _ H,a5.eB f,by rw[(i g p).1];exact a6,λb=>by rw[(i g p).1];exact Y b,?_,?_,?_⟩
  ·exact⟨Ja a2 f,λj=>by rw[World.frozen?_of_block (w:=w) f];exact a3.2 j⟩
  ·intro N;obtain⟨C,T,t,y,D⟩:=X N;exact⟨C,T,t,y.eB f,D⟩
  ·intro hd;obtain⟨e,b⟩:=a9 hd;refine⟨e,λa d=>?_⟩;have m:=i a.1 (by rw[e];simp;exact .inr ⟨a.2,d⟩);refine⟨by rw[m.1];exact (b a d).1,Ja (b a d).2.1 m.2,λj=>?_⟩;rw[World.frozen?_of_block (w:=w) m.2];exact (b a d).2.2 j
  ·intro hd;obtain⟨e,b⟩:=l hd;exact⟨e,b.mono K⟩
structure wK (γ:Gh) (M:Own->Prop) (w w':World):Prop where
 os:w'.os=w.os
 tape:w'.tape=w.tape
 output:w'.output=w.output
 size:w.heap.size<=w'.heap.size
 block:∀g,g < w.heap.size->¬M (γ.ω g)->w'.heap[g]?=w.heap[g]?
 cell:∀g j,j < γ.h g->w'.cell? ⟨g,j,none⟩=w.cell? ⟨g,j,none⟩
 gW:∀g,oX w g->oX w' g
section
variable {γ:Gh} {h0:Nat->Nat} {io:M Nat} {w0:World} {s:St} {f:Fm} {w:World}
theorem Inv.wT(d:Inv γ h0 io w0 s f w){b:World}{a:Own->Prop}(c:wK γ a w b):∀g j,j < γ.h g->b.cell? ⟨g,j,O⟩=w.cell? ⟨g,j,O⟩:=c.cell
theorem Inv.OQ(a:Inv γ h0 io w0 s f w){p:World}{M:Own->Prop}(i:wK γ M w p)(B:¬M .free)(C:∀b,M (.box b)->look s.bx b=O)(A:∀r,M (.row r)->look s.rw r=O):Inv γ h0 io w0 s f p where
 sl d c k:=(a.sl d c k).mono (γ':=γ) (λ_=>au _) i.cell rfl rfl c
 bx b cs k:=by
  obtain⟨T,y,m,o,l⟩:=a.bx b cs k;refine⟨T,y,m.eB (i.block _ m.lt ?_),o.mono (γ':=γ) (λ_=>au _) i.cell rfl rfl cs,l⟩;rw[l];intro n;rw[C b n]at k;cases k
 rw r x k:=by
  obtain⟨F,m,o,l⟩:=a.rw r x k;refine⟨F,m.eB (λg e=>⟨rfl,i.block g (a.own g (by rw[l g e];simp)).1 ?_⟩) (λ_=>au _) i.cell,o,l⟩;rw[l g e];intro n;rw[A r n]at k;cases k
 own g e:=⟨cA (a.own g e).1 i.size,(a.own g e).2⟩
 nE:=a.nE
 gy g e:=a.gy g (aL i.size e)
 os:=i.os.trans a.os
 tape:=i.tape.trans a.tape
 output:=i.output.trans a.output
 size:=aL a.size i.size
 frame g e q:=by
  refine (i.block g (cA e a.size) ?_).trans (a.frame g e q);have:γ.ω g=.free:=by
   rcases jK (γ.ω g=.free) with h|h
   ·exact h
   ·rcases (a.own g h).2 with v|v
    ·omega
    ·exact absurd v q
  rw[this];exact B
 cell g j e t:=(i.cell g j (cA t (a.mono g e))).trans (a.cell g j e t)
 mono:=a.mono
 hold:=a.hold
 gW g e:=i.gW g (a.gW g e)
theorem Inv.sub(b:Inv γ h0 io w0 s f w){a:St}(i:∀d c,look a.sl d=Z c->look s.sl d=Z c)(g:∀d c,look a.bx d=Z c->look s.bx d=Z c)(e:∀d c,look a.rw d=Z c->look s.rw d=Z c):Inv γ h0 io w0 a f w:=
 {b with sl:=λd c h=>b.sl d c (i d c h),bx:=λd c h=>b.bx d c (g d c h),rw:=λd c h=>b.rw d c (e d c h) }
theorem Inv.get(a:Inv γ h0 io w0 s f w)(d:Nat):CR γ w (s.get d) (f d):=by
 unfold St.get;cases h:look s.sl d with
 |none=>simp[CR]
 |some c=>exact a.sl d c h
theorem Inv.put(b:Inv γ h0 io w0 s f w)(d:Nat)(c:C)(v:Value)(g:CR γ w c v):Inv γ h0 io w0 (s.put (Z d) c) (FQ f d v) w:=
 {b with
  sl:=λe j h=>by
   simp only[St.put,look]at h;by_cases a:d=e
   ·subst a;simp at h;subst h
    simpa [FQ] using g
   ·rw[if_neg a]at h;have:FQ f d v e=f e:=by
     unfold FQ;cases i:fj e d
     ·rfl
     ·exact absurd (gl i).symm a
    rw[this];exact b.sl e j h }
theorem Inv.settle(a:Inv γ h0 io w0 s f w){h':Nat->Nat}{ω':Nat->Own}(l:∀g,γ.h g<=h' g)(n:∀g,h' g≠γ.h g->g < w.heap.size/\(w0.heap.size<=g\/g∈io)/\(∀b j,look s.bx b=Z j->γ.ω g≠.box b)/\∀r x,look s.rw r=Z x->γ.ω g≠.row r)
  (m:∀g,ω' g=γ.ω g\/((ω' g=.free\/ω' g=.fP)/\γ.ω g≠.free/\(∀b j,look s.bx b=Z j->γ.ω g≠.box b)/\∀r x,look s.rw r=Z x->γ.ω g≠.row r)) (v:∀g b,ω' g=.box b->h' g=0):Inv {γ with h:=h',ω:=ω' } h0 io w0 s f w where
 sl d c i:=(a.sl d c i).mono (γ':={γ with h:=h',ω:=ω' }) l (λ_ _ _=>rfl) rfl rfl c
 bx b j i:=by
  obtain⟨T,t,p,o,k⟩:=a.bx b j i;refine⟨T,t,p,o.mono (γ':={γ with h:=h',ω:=ω' }) l (λ_ _ _=>rfl) rfl rfl j,?_⟩;rcases m (γ.β b) with h|⟨_,_,h,_⟩
  ·exact h.trans k
  ·exact absurd k (h b j i)
 rw r x i:=by
  obtain⟨F,p,o,k⟩:=a.rw r x i;refine⟨F,p.eB (λg e=>⟨?_,rfl⟩) l (λ_ _ _=>rfl),o,λg e=>?_⟩
  ·rcases jK (h' g=γ.h g) with h|h
   ·exact h
   ·exact absurd (k g e) ((n g h).2.2.2 r x i)
  ·rcases m g with h|⟨_,_,_,h⟩
   ·exact h.trans (k g e)
   ·exact absurd (k g e) (h r x i)
 own g e:=by
  rcases m g with h|⟨_,h,_⟩
  ·exact a.own g (by rw[<- h];exact e)
  ·exact a.own g h
 nE:=v
 gy g e:=by
  rcases jK (h' g=γ.h g) with h|h
  ·exact h.trans (a.gy g e)
  ·have:=(n g h).1;omega
 os:=a.os
 tape:=a.tape
 output:=a.output
 size:=a.size
 frame:=a.frame
 cell:=a.cell
 mono g e:=aL (a.mono g e) (l g)
 hold g e q:=by
  rcases jK (h' g=γ.h g) with h|h
  ·exact h.trans (a.hold g e q)
  ·rcases (n g h).2.1 with h'|h'
   ·omega
   ·exact absurd h' q
 gW:=a.gW
end
end
section
open Go.RowKit
def kX(N:Nat):Operand->KX->Bool
 | .tmp d,.s f=>d ==f && gf d N
 | .const (.int k n),.k (.d (.int e c))=>k ==e && n ==c && k.wrap n ==n
 | .const (.bool b),.k (.d (.bool g))=>b ==g
 | .const (.string s),.k (.d (.str a))=>s.data.toList ==a.data.toList && gV s.size maxLen
 | .const (.slice O 0 0),.k (.nil k _)=>gf 0 k
 | .const _,.k .any=>I
 |_,_=>J
section
variable {γ:Gh} {h0:Nat->Nat} {io:M Nat} {w0:World} {s:St} {f:Fm} {w:World} {N:Nat}
theorem iQ{k:IntKind}{n:Int}(h:k.wrap n=n):CR γ w (.d (.int k n)) (.int k n):=by
 simp only[CR,Rp];exact⟨[],by simp[h],λ_ h=>by simp at h⟩
theorem jl{b:Bool}:CR γ w (.d (.bool b)) (.bool b):=by
 simp only[CR,Rp];exact⟨[],by simp,λ_ h=>by simp at h⟩
theorem Ba{t:z}(h:t.size<=maxLen):CR γ w (.d (.str t)) (.string t):=by
 simp only[CR,Rp];exact⟨[],by simp[h],λ_ h=>by simp at h⟩
theorem kL{k:IntKind}{n:Int}{v:Value}(h:CR γ w (.d (.int k n)) v):v=.int k n/\k.wrap n=n:=by
 simp only[CR,Rp]at h;grind
theorem sK{b:Bool}{v:Value}(h:CR γ w (.d (.bool b)) v):v=.bool b:=by
 simp only[CR,Rp]at h;grind
theorem C1{t:z}{v:Value}(h:CR γ w (.d (.str t)) v):v=.string t/\t.size<=maxLen:=by
 simp only[CR,Rp]at h;grind
theorem Jx{a b:z}(h:a.data.toList=b.data.toList):a=b:=by
 cases a;simp_all
theorem cy(b:Inv γ h0 io w0 s f w){x:Operand}{kx:KX}(ok:kX N x kx=I):CR γ w (fX s kx) ((fr f N).eval x):=by
 unfold kX at ok
 split at ok
 ·simp only[af,beq_iff_eq]at ok;obtain⟨rfl,hd⟩:=ok;rw[Pq f (by simpa using hd)];exact b.get _
 ·simp only[af,beq_iff_eq]at ok;obtain⟨⟨rfl,rfl⟩,a⟩:=ok;exact iQ a
 ·simp only[beq_iff_eq]at ok;subst ok;exact jl
 ·simp only[af,beq_iff_eq,Nat.ble_eq]at ok;obtain⟨c,a⟩:=ok;rw[Jx c]at a ⊢;exact Ba a
 ·simp only[oU]at ok;simp only[fX,CR];exact⟨rfl,ok⟩
 ·simp only[fX,CR]
 ·cases ok
end
structure rG (γ:Gh) (s:St) (w w':World):Prop where
 cell:∀g j,j < γ.h g->w'.cell? ⟨g,j,none⟩=w.cell? ⟨g,j,none⟩
 bx:∀b cs,look s.bx b=some cs->w'.heap[γ.β b]?=w.heap[γ.β b]?
 rw:∀r x,look s.rw r=some x->∀g,γ.ω g=.row r->w'.heap[g]?=w.heap[g]?
theorem rG.refl(a:Gh)(s:St)(w:World):rG a s w w:=⟨λ_ _ _=>rfl,λ_ _ _=>rfl,λ_ _ _ _ _=>rfl⟩
def Jh(N:Nat):M Operand->M KX->Bool
 |[],[]=>I
 |x::xs,y::ys=>kX N x y && Jh N xs ys
 |_,_=>J
theorem En{b:Gh}{g:Nat->Nat}{e:M Nat}{d:World}{s:St}{f:Fm}{w:World}{N:Nat}(c:Inv b g e d s f w):∀(a:M Operand) (ys:M KX),Jh N a ys=I->fF b w (ys.map (fX s)) (a.map (fr f N).eval)
 |[],[],_=>by simp[fF]
 |[],_::_,h=>by simp[Jh]at h
 |_::_,[],h=>by simp[Jh]at h
 |x::a,y::ys,h=>by
  simp only[Jh,af]at h;simp only[aW,fF];exact⟨_,_,rfl,cy c h.1,En c a ys h.2⟩
def okZ:Value->C->Bool
 | .int k n,.d (.int e c)=>k ==e && n ==c && k.wrap n ==n
 | .bool b,.d (.bool f)=>b ==f
 | .string s,.d (.str a)=>s.data.toList ==a.data.toList && gV s.size maxLen
 | .slice O 0 0,.nil k _=>gf 0 k
 |_,_=>J
def Ji:M Value->M C->Bool
 |[],[]=>I
 |v::a,c::cs=>okZ v c && Ji a cs
 |_,_=>J
theorem zh{e:Gh}{w:World}:∀(a:M Value) (d:M C),Ji a d=I->fF e w d a
 |[],[],_=>by simp[fF]
 |[],_::_,h=>by simp[Ji]at h
 |_::_,[],h=>by simp[Ji]at h
 |v::a,c::d,h=>by
  simp only[Ji,af]at h;simp only[fF];refine⟨v,a,rfl,?_,zh a d h.2⟩;have ok:=h.1;unfold okZ at ok
  split at ok
  ·simp only[af,beq_iff_eq]at ok;obtain⟨⟨rfl,rfl⟩,b⟩:=ok;exact iQ b
  ·simp only[beq_iff_eq]at ok;subst ok;exact jl
  ·simp only[af,beq_iff_eq,Nat.ble_eq]at ok;obtain⟨f,b⟩:=ok;rw[Jx f]at b ⊢;exact Ba b
  ·simp only[oU]at ok;simp only[CR];exact⟨trivial,ok⟩
  ·cases ok
def J9(P:Program)(T:TypeId):u Bool:=
 match P.underlying T with
 |some (.struct _)=>Z I
 |some (.array _ _)=>Z I
 |some _=>Z J
 |none=>O
def nK(P:Program)(T:TypeId):u Nat:=(P.info? T).map (·.size)
theorem v7{P:Program}{T:TypeId}{b:Bool}(h:J9 P T=Z b)(w:World):(isAgg T).run P w=.ok b w:=by
 unfold J9 at h;cases a:P.underlying T with
 |none=>rw[a]at h;cases h
 |some d=>
  rw[a]at h;cases d<;>simp at h<;>subst h<;>simp[isAgg,run_underlying a]
theorem run_sizeOf{P:Program}{T:TypeId}{n:Nat}(h:nK P T=Z n)(w:World):(oS T).run P w=.ok n w:=by
 unfold nK at h;cases a:P.info? T with
 |none=>rw[a]at h;cases h
 |some i=>
  rw[a]at h;simp at h;subst h;simp[oS,typeInfo,a]
def Vc(P:Program)(T:TypeId)(i o:Nat):Bool:=
 match P.underlying T with
 |some (.struct fs)=>match fs[i]? with
  |some a=>a.offset ==o && (match nK P a.type with
   |some n=>gf 0 n
   |none=>J)
  |none=>J
 |_=>J
def sliceB(P:Program)(T:TypeId)(k:Nat):Bool:=
 match P.underlying T with
 |some (.slice a)=>nK P a ==Z k
 |_=>J
def afX(P:Program)(T:TypeId)(n k:Nat):Bool:=
 match P.underlying T with
 |some (.array m a)=>m ==n && nK P a ==Z k
 |_=>J
def afY(P:Program)(T:TypeId):Bool:=
 match P.underlying T with
 |some (.array _ a)=>(P.info? a).isSome
 |_=>J
def isStr(P:Program)(T:TypeId):Bool:=
 match P.underlying T with
 |some .string=>I
 |_=>J
def Ny(P:Program)(T:TypeId):Bool:=
 match P.underlying T with
 |some (.slice _)=>I
 |_=>J
def Jw(P:Program)(T:TypeId):u Nat:=
 match P.underlying T with
 |some (.slice a)=>nK P a
 |_=>O
def adx(P:Program)(T:TypeId):Bool:=
 match P.underlying T with
 |some (.slice a)=>(match P.underlying a with
  |some (.int .u8)=>I
  |_=>J)
 |_=>J
def isBool(P:Program)(T:TypeId):Bool:=
 match P.underlying T with
 |some .bool=>I
 |_=>J
def ZQ(P:Program)(T:TypeId):u IntKind:=
 match P.underlying T with
 |some (.int k)=>Z k
 |_=>O
def zj(P:Program)(T:TypeId):u (M (Nat×Nat)):=
 match P.underlying T with
 |some (.struct fs)=>fs.toList.mapM (λf=>(P.info? f.type).map λi=>(f.offset,i.size))
 |_=>O
def sv(P:Program)(T:TypeId):u (M Value):=((P.info? T).bind (·.zero)).map λa=>a.cells.toList
def vU(N:Nat)(pl:M (Nat×Nat)):M (Nat×Operand)->M (Nat×Nat×KX)->Bool
 |[],[]=>I
 |(i,x)::a,(o,n,kx)::b=>pl[i]? ==Z (o,n) && kX N x kx && vU N pl a b
 |_,_=>J
def El(N:Nat):u Operand->u KX->Bool
 |none,O=>I
 |some x,Z y=>kX N x y
 |_,_=>J
theorem ox{e:Gh}{l:Nat->Nat}{h:M Nat}{g:World}{s:St}{f:Fm}{w:World}{N:Nat}(k:Inv e l h g s f w){o:u Operand}{kx:u KX}{a m:Nat}(c:El N o kx=I)(b:sa s kx a=Z m):MP (fr f N).eval o a m:=by
 cases o with
 |none=>
  cases kx with
  |none=>simp only[sa,aa]at b;exact b.symm
  |some y=>simp[El]at c
 |some x=>
  cases kx with
  |none=>simp[El]at c
  |some y=>
   have d:=cy k c;simp only[sa]at b
   split at b
   ·rename_i n j;rw[j]at d;obtain⟨i,_⟩:=kL d
    split at b
    ·simp only[aa]at b;simp only[MP,i]
     congr 1
     omega
    ·cases b
   ·cases b
def zf(P:Program)(N:Nat):Op->KO->Bool
 | .move x,.mv y=>kX N x y
 | .assign x,.mv y=>kX N x y
 | .pick c a b,.pick v A w=>kX N c v && kX N a A && kX N b w
 | .build T p,.build m t=>(match sv P T,zj P T with
   |some d,Z pl=>Ji d m && vU N pl p.toList t
   |_,_=>J)
 | .load T x,.ld n y=>kX N x y && (if n=0 then J9 P T ==Z J else J9 P T ==Z I && nK P T ==Z n)
 | .fieldAddr T x i,.fa o y=>kX N x y && Vc P T i o
 | .indexAddr T x i,.ia k y j=>kX N x y && kX N i j && sliceB P T k
 | .build T p,.zro m=>p.isEmpty && afY P T && (match sv P T with
   |some d=>Ji d m
   |none=>J)
 | .indexAddr T x i,.ixa n k y j=>kX N x y && kX N i j && afX P T n k
 | .index T x i,.XA y j=>kX N x y && kX N i j && isStr P T
 | .binOp op T x y _,.bin g f e=>Z' (op=g) && kX N x f && kX N y e
 | .binOp op T x y _,.TL g f e=>Z' (op=g) && kX N x f && kX N y e && isBool P T
 | .unOp .not _ x,.not y=>kX N x y
 | .unOp .neg _ x,.neg y=>kX N x y
 | .convert T s x,.conv k y=>kX N x y && (ZQ P T).isSome && ZQ P s ==Z k
 | .call c,.len y=>(match c.callee,c.args.toList,c.argTypes.toList with
   | .builtin .len,[x],[T]=>kX N x y && Ny P T
   |_,_,_=>J)
 | .call c,.sln y=>(match c.callee,c.args.toList,c.argTypes.toList with
   | .builtin .len,[x],[T]=>kX N x y && isStr P T
   |_,_,_=>J)
 | .call c,.min y e=>(match c.callee,c.args.toList with
   | .builtin .min,[x,f]=>kX N x y && kX N f e
   |_,_=>J)
 | .call c,.max y e=>(match c.callee,c.args.toList with
   | .builtin .max,[x,f]=>kX N x y && kX N f e
   |_,_=>J)
 | .extract x i,.ext y j=>kX N x y && i ==j
 | .slice T x O (Z h) O,.slc y j=>kX N x y && kX N h j && Ny P T && (Jw P T).isSome
 | .slice T x q r O,.MI y l h=>kX N x y && El N q l && El N r h && isStr P T
 | .slice T x q r O,.v8 k y l h=>kX N x y && El N q l && El N r h && Jw P T ==Z k
 | .nilCheck x,.nck y=>kX N x y
 | .convert T s x,.Mw y=>kX N x y && isStr P s && adx P T
 |_,_=>J
theorem fU{a:Type}:∀(l:M a) (i:Nat),nth l i=l[i]?
 |[],i=>by simp[nth]
 |x::l,0=>by simp[nth]
 |x::l,i+1=>by simp[nth,fU l i]
theorem fF.length{d:Gh}{w:World}:∀{a:M C} {b:M Value},fF d w a b->b.length=a.length
 |[],_,h=>by simp only[fF]at h;simp[h]
 |c::a,_,h=>by
  simp only[fF]at h;obtain⟨v,f,rfl,_,e⟩:=h;simp[fF.length e]
theorem fF.at_{d:Gh}{w:World}:∀{b:M C} {e:M Value},fF d w b e->∀{i:Nat} {c:C},b[i]?=Z c->∃v,e[i]?=Z v/\CR d w c v
 |[],_,_,i,c,a=>by simp at a
 |x::b,_,h,i,c,a=>by
  simp only[fF]at h;obtain⟨v,j,rfl,g,f⟩:=h;cases i with
  |zero=>simp at a;subst a;exact⟨v,rfl,g⟩
  |succ i=>simp at a;simpa using fF.at_ f a
theorem fF.drop{b:Gh}{w:World}:∀{a:M C} {d:M Value} (n:Nat),fF b w a d->fF b w (a.drop n) (d.drop n)
 |a,_,0,h=>by simpa using h
 |[],_,n+1,h=>by simp only[fF]at h;subst h;simp[fF]
 |c::a,_,n+1,h=>by
  simp only[fF]at h;obtain⟨v,f,rfl,_,e⟩:=h
  simpa using fF.drop n e
theorem fF.take{b:Gh}{w:World}:∀{a:M C} {d:M Value} (n:Nat),fF b w a d->fF b w (a.take n) (d.take n)
 |a,_,0,h=>by simp[fF]
 |[],_,n+1,h=>by simp only[fF]at h;subst h;simp[fF]
 |c::a,_,n+1,h=>by
  simp only[fF]at h;obtain⟨v,g,rfl,f,e⟩:=h;simp only[fE,fF];exact⟨v,_,rfl,f,fF.take n e⟩
theorem fF.append{a:Gh}{w:World}:∀{d g:M C} {e f:M Value},fF a w d e->fF a w g f->fF a w (d++g) (e++f)
 |[],_,_,_,h,b=>by simp only[fF]at h;subst h;simpa using b
 |c::d,_,_,_,h,b=>by
  simp only[fF]at h;obtain⟨v,k,rfl,j,i⟩:=h;simp only[aq,fF];exact⟨v,_,rfl,j,fF.append i b⟩
theorem fF.zt{a:Gh}{w:World}{f e:M C}{b c:M Value}(o:Nat)(h:fF a w f b)(d:fF a w e c):fF a w (mi f o e) (cF b o c):=by
 unfold mi cF;rw[<- d.length];exact ((h.take o).append d).append (h.drop _)
theorem fF.ofC{b:Gh}{w:World}:∀{a:M D} {c:M Value} {F:Fp},fV w a c F->eM b.h F->fF b w (a.map .d) c
 |[],_,_,h,_=>by simp only[fV]at h;simp[fF,h.1]
 |d::a,_,_,h,e=>by
  simp only[fV]at h;obtain⟨v,i,j,k,rfl,rfl,g,f⟩:=h;simp only[aW,fF];refine⟨v,i,rfl,?_,fF.ofC f (e.sub (by simp_all))⟩;simp only[CR];exact⟨j,g,e.sub (by simp_all)⟩
theorem CR.cells{g:Gh}{w:World}{c:C}{v:Value}(h:CR g w c v)(a:c.cells.all C.cell=I):fF g w c.cells v.cells.toList/\(c.isAgg=J->v.cells=#[v])/\(c.isAgg=I->∃f:M Value,v=.agg f.toArray):=by
 cases c with
 |agg o=>
  obtain⟨f,rfl,i⟩:=h;exact⟨by simpa [C.cells,Value.cells] using i,by simp[C.isAgg],λ_=>⟨f,rfl⟩⟩
 |d x=>
  have b:=h;obtain⟨F,j,_⟩:=h;have l:=j.rW;have e:v.cells=#[v]:=by cases v<;>simp_all[Value.cells,one]
  refine⟨?_,λ_=>e,by simp[C.isAgg]⟩;rw[e];exact⟨v,[],rfl,b,rfl⟩
 |nil k m=>
  have b:=h;obtain⟨rfl,_⟩:=h;refine⟨?_,λ_=>rfl,by simp[C.isAgg]⟩;exact⟨_,[],rfl,b,rfl⟩
 |ref r=>
  have b:=h;obtain⟨_,A,n,c,rfl⟩:=h;refine⟨?_,λ_=>rfl,by simp[C.isAgg]⟩;exact⟨_,[],rfl,b,rfl⟩
 |ptr _ _=>simp[C.cells,C.cell]at a
 |oO _ _ _ _=>simp[C.cells,C.cell]at a
 |tN _=>simp[C.cells,C.cell]at a
 |rf _=>simp[C.cells,C.cell]at a
 |ug=>simp[C.cells,C.cell]at a
 |any=>simp[C.cells,C.cell]at a
theorem W4(off:Nat):∀(b:M Value) (j:Nat) (A:Array Value),off+j+b.length<=A.size->(b.zipIdx j).foldl (λa p=>a.setIfInBounds (off+p.2) p.1) A=(cF A.toList (off+j) b).toArray
 |[],j,A,_=>by simp[cF]
 |v::b,j,A,h=>by
  simp only[aE]at h;simp only[List.zipIdx_cons,wm];rw[W4 off b (j+1) _ (by simp;omega),<- cV,<- vq _ _ _ _ (by simp;omega)];simp
theorem QD(off:Nat)(b:M Value)(A:Array Value)(h:off+b.length<=A.size):b.toArray.zipIdx.foldl (λa (c,j)=>a.setIfInBounds (off+j) c) A=(cF A.toList off b).toArray:=by
 have d:=W4 off b 0 A (by simpa using h);simp_all
theorem K3{r:Gh}{S:Nat->Nat}{B:M Nat}{A:World}{s:St}{f:Fm}{w:World}{N:Nat}(y:Inv r S B A s f w){pl:M (Nat×Nat)}{place:Nat->u (Nat×Nat)}(v:∀i,place i=pl[i]?) :
  ∀(k:M (Nat×Operand)) (l:M (Nat×Nat×KX)) (g:M C) (a:M Value) (d:M C),vU N pl k l=I->fF r w g a->Br g (l.map λp=>(p.1,p.2.1,(fX s p.2.2).cells))=Z d->
   ∃q:M Value,Instr.fill place a.toArray (k.map λp=>(p.1,(fr f N).eval p.2))=Z q.toArray/\fF r w d q
 |[],[],g,a,d,_,m,b=>by
  simp only[cE,Br,aa]at b;subst b;exact⟨a,rfl,m⟩
 |[],_::_,_,_,_,h,_,_=>by simp[vU]at h
 |_::_,[],_,_,_,h,_,_=>by simp[vU]at h
 |(i,x)::k,(o,n,kx)::l,g,a,d,h,m,b=>by
  simp only[vU,af,beq_iff_eq]at h;obtain⟨⟨R,Q⟩,P⟩:=h;simp only[aW,Br]at b
  split at b
  ·rename_i H;obtain⟨c1,W,U⟩:=H;have F:=cy y Q;obtain⟨t,_,_⟩:=F.cells U;have G:=t.length;obtain⟨q,L,K⟩:=K3 y v k l _ _ d P (m.zt o t) b;refine⟨q,?_,K⟩;simp only[aW,Instr.fill,v,R];have V:((fr f N).eval x).cells.size=n:=by rw[<- eW,G];exact c1
   have D:=m.length;rw[if_neg (by simp only[nW];simp;omega)];have e:((fr f N).eval x).cells.zipIdx.foldl (λT (c,j)=>T.setIfInBounds (o+j) c) a.toArray=(cF a o ((fr f N).eval x).cells.toList).toArray:=by
    have:=QD o ((fr f N).eval x).cells.toList a.toArray (by simp;omega)
    simpa using this
   rw[e];exact L
  ·cases b
theorem Uq{P:Program}{T:TypeId}{a:M Value}{pl:M (Nat×Nat)}(b:sv P T=Z a)(c:zj P T=Z pl)(parts:M (Nat×Value)):P.built T parts=Instr.fill (λi=>pl[i]?) a.toArray parts:=by
 unfold zj at c;unfold sv at b;cases d:P.info? T with
 |none=>rw[d]at b;simp at b
 |some f=>
  rw[d]at b;cases e:f.zero with
  |none=>simp[e]at b
  |some z0=>
   simp[e]at b;subst b
   split at c
   ·rename_i fs g;simp only[Program.built,d,g,e,c];simp
   ·cases c
section
variable {P:Program} {γ:Gh} {h0:Nat->Nat} {io:M Nat} {w0:World} {s:St} {f:Fm} {w:World} {N:Nat} {dst:u Tmp} {ty:TypeId} {pos:String} {aft:Array Edge} {gd:u (Nat×Bool)}
theorem aav(o:Inv γ h0 io w0 s f w){T:TypeId}{e:Array (Nat×Operand)}{h:M C}{j:M (Nat×Nat×KX)}{c:C}(b:zf P N (.build T e) (.build h j)=I)(g:jm s (.build h j)=Z c) :
  ∃v,CR γ w c v/\∀d,(execOp (fr f N).eval ⟨dst,.build T e,ty,pos,aft,gd⟩).run P d=.ok (.value v) d:=by
 simp only[zf]at b
 split at b
 ·rename_i a pl m n;simp only[af]at b;simp only[jm,ak]at g;obtain⟨l,g,rfl⟩:=g;obtain⟨k,r,q⟩:=K3 o (place:=λi=>pl[i]?) (λ_=>rfl) e.toList j h a l b.2 (zh _ _ b.1) g;refine⟨.agg k.toArray,by simp only[CR];exact⟨k,rfl,q⟩,λd=>?_⟩;have p:=run_build (P:=P) d T (e.map λ(i,x)=>(i,(fr f N).eval x)) k.toArray (by rw[Uq m n];simpa using r);simp[execOp,p]
 ·cases b
theorem aiE(j:Inv γ h0 io w0 s f w){T:TypeId}{o:Array (Nat×Operand)}{n:M C}{c:C}(e:zf P N (.build T o) (.zro n)=I)(g:jm s (.zro n)=Z c) :
  ∃v,CR γ w c v/\∀i,(execOp (fr f N).eval ⟨dst,.build T o,ty,pos,aft,gd⟩).run P i=.ok (.value v) i:=by
 simp only[zf,af,Array.isEmpty_iff]at e;obtain⟨⟨rfl,h⟩,e⟩:=e
 split at e
 ·rename_i a d;simp only[jm]at g
  split at g
  ·simp only[aa]at g;subst g;refine⟨.agg a.toArray,by simp only[CR];exact⟨a,rfl,zh _ _ e⟩,λi=>?_⟩;have t:P.built T []=Z a.toArray:=by
    unfold sv at d;unfold afY at h;cases j:P.info? T with
    |none=>rw[j]at d;simp at d
    |some p=>
     rw[j]at d;cases l:p.zero with
     |none=>simp[l]at d
     |some z0=>
      simp[l]at d;subst d
      split at h
      ·rename_i m b q;rw[cn]at h;obtain⟨x,k⟩:=h;simp[Program.built,j,q,l,k,Instr.fill]
      ·cases h
   have r:=run_build (P:=P) i T #[] a.toArray t;simp[execOp,r]
  ·cases g
 ·cases e
theorem ad4(hi:Inv γ h0 io w0 s f w){T:TypeId}{x:Operand}{y:KX}{n:Nat}{c:C}(df:zf P N (.load T x) (.ld n y)=I)(q:jm s (.ld n y)=Z c) :
  ∃v,CR γ w c v/\∀l,rG γ s w l->(execOp (fr f N).eval ⟨dst,.load T x,ty,pos,aft,gd⟩).run P l=.ok (.value v) l:=by
 simp only[zf,af]at df;obtain⟨hx,oG⟩:=df;have K:=cy hi hx;have fin:∀(b o:Nat) (D:M Value),(fr f N).eval x=.pointer (Z ⟨b,o,O⟩)->(∀l,rG γ s w l->jo l b o D)->(n=0->D.length=1)->(n≠0->D.length=n)->
   ∀l,rG γ s w l->(execOp (fr f N).eval ⟨dst,.load T x,ty,pos,aft,gd⟩).run P l=.ok (.value (if n=0 then D.headD undef else .agg D.toArray)) l:=by
  intro b o D U L h1 X l t;by_cases B:n=0
  ·subst B;simp only[if_true,beq_iff_eq]at oG ⊢;obtain⟨v,rfl⟩:=db.1 (h1 rfl);exact OI (λw=>v7 oG w) U (by have:=L l t 0 v rfl;simpa using this)
  ·simp only[if_neg B,af,beq_iff_eq]at oG ⊢;exact Q3 (λw=>v7 oG.1 w) (λw=>run_sizeOf oG.2 w) U (X B) (L l t)
 simp only[jm]at q
 split at q
 ·rename_i b o W;rw[W]at K;simp only[CR]at K
  split at q
  ·rename_i cs L;obtain⟨T',D,h1,X,h3⟩:=hi.bx b cs L;have H:=X.length;have R:∀(m:Nat) l,rG γ s w l->jo l (γ.β b) o ((D.drop o).take m):=by
    intro m l t;have:=(h1.eB (t.bx b cs L)).SN;have h4:=this.sub o m
    simpa using h4
   by_cases B:n=0
   ·subst B;simp only[if_true,fU]at q;obtain⟨v,S,hc⟩:=X.at_ q;have iM:=(bm.1 S).1;have Y:(D.drop o).take 1=[v]:=by
     rw[List.take_one,List.head?_drop,S];rfl
    refine⟨v,hc,λl t=>?_⟩;have:=fin _ _ _ K (R 1) (λ_=>by rw[Y];rfl) (λh=>absurd rfl h) l t;rw[Y]at this
    simpa using this
   ·rw[if_neg B]at q
    split at q
    ·rename_i ho;simp only[aa]at q;subst q;refine⟨.agg ((D.drop o).take n).toArray,by simp only[CR];exact⟨_,rfl,(X.drop o).take n⟩,λl t=>?_⟩;have:=fin _ _ _ K (R n) (λh=>absurd h B) (λ_=>by simp;omega) l t
     simpa [B] using this
    ·cases q
  ·cases q
 ·rename_i cs W;rw[W]at K;simp only[CR]at K;obtain⟨b,o,D,F,U,RM,lT,L,hh⟩:=K;have H:=fV.length cs RM;have R:∀(m:Nat) l,rG γ s w l->jo l b o (D.take m):=by
   intro m l t;have:jo l b o D:=by
    intro j a hu;have hj:=(bm.1 hu).1;rw[t.cell b (o+j) (hh j (by omega))];exact L j a hu
   have h4:=this.sub 0 m
   simpa using h4
  by_cases B:n=0
  ·subst B;simp only[if_true,fU,ak]at q;obtain⟨d,hd,rfl⟩:=q;obtain⟨v,G,S,BB,hG⟩:=RM.at_ hd;have Y:D.take 1=[v]:=by
    rw[List.take_one,List.head?_eq_getElem?,S];rfl
   refine⟨v,by simp only[CR];exact⟨G,BB,lT.sub hG⟩,λl t=>?_⟩;have:=fin _ _ _ U (R 1) (λ_=>by rw[Y];rfl) (λh=>absurd rfl h) l t;rw[Y]at this
   simpa using this
  ·rw[if_neg B]at q
   split at q
   ·rename_i ho;simp only[aa]at q;subst q;obtain⟨G,h4,h5⟩:=fV.take cs n RM;refine⟨.agg (D.take n).toArray,by simp only[CR];exact⟨_,rfl,fF.ofC h4 (lT.sub h5)⟩,λl t=>?_⟩;have:=fin _ _ _ U (R n) (λh=>absurd h B) (λ_=>by simp;omega) l t
    simpa [B] using this
   ·cases q
 ·rename_i r k i o W;rw[W]at K;simp only[CR]at K;obtain⟨g,p,m,cc,rR,U⟩:=K
  split at q
  ·rename_i row L
   split at q
   ·rename_i e Iu
    split at q
    ·rename_i hc;obtain⟨hk,ho,hpl⟩:=hc;subst hk;obtain⟨F,hR,_,sE⟩:=hi.rw r row L;obtain⟨A,n',c',q1,q2,q3,q4,q5,q6,q7,q8⟩:=hR;rw[rR]at q1;simp only[Value.slice.injEq]at q1;obtain⟨rfl,rfl,rfl⟩:=q1;rcases q8 with ⟨q8,_⟩|⟨g',p',xs,G,a1,a2,a3,a4,a5,a6,a7,a8,a9,tM⟩
     ·cases q8
     ·simp only[aa,Addr.mk.injEq,and_true]at a1;obtain⟨rfl,rfl⟩:=a1;rw[fU]at Iu;obtain⟨G',RM,hG'⟩:=a4.at_ q6 Iu;have hlx:=fQ.length row.es a4 q6;have adg:=(bm.1 Iu).1;have JV:=q6 e (gD Iu);have hgF:g∈F:=by
       cases hd:row.deep with
       |true=>rw[(a9 hd).1];simp
       |false=>rw[(tM hd).1];simp
      have R:∀(m:Nat) l,rG γ s w l->jo l g (p+i * row.k+o) ((((xs.drop (i * row.k)).take row.k).drop o).take m):=by
       intro m l t;have h1:jo l g p xs:=a5.eB (t.rw r row L g (sE g hgF));have X:=(h1.sub (i * row.k) row.k).sub o m;exact X
      have abR:∀(m:Nat),cD ((e.drop o).take m)=I\/row.deep=J->∃G2,fV w ((e.drop o).take m) ((((xs.drop (i * row.k)).take row.k).drop o).take m) G2/\eM γ.h G2:=by
       intro m V;obtain⟨G1,r1,s1⟩:=fV.drop e o RM;obtain⟨G2,Q,s2⟩:=fV.take _ m r1;refine⟨G2,Q,?_⟩;rcases V with V|V
       ·have:G2=[]:=Q.plain (by simpa [cD] using V);subst this;exact λ_ h=>by simp at h
       ·exact (tM V).2.sub (λbe W=>hG' be (s1 be (s2 be W)))
      have ahc:∀m,m=max n 1->cD ((e.drop o).take m)=I\/row.deep=J:=by
       intro m V;subst V
       simpa using hpl
      have H:((xs.drop (i * row.k)).take row.k).length=row.k:=by
       rw[fV.length e RM,JV]
      by_cases B:n=0
      ·subst B;simp only[if_true,fU,ak]at q;obtain⟨d,hd,rfl⟩:=q;obtain⟨G2,Q,s2⟩:=abR 1 (ahc 1 (by simp));have Y:(e.drop o).take 1=[d]:=by rw[List.take_one,List.head?_drop,hd];rfl
       rw[Y]at Q;obtain⟨v,G3,S,BB,hG4⟩:=Q.at_ (i:=0) (d:=d) rfl;have e2:(((xs.drop (i * row.k)).take row.k).drop o).take 1=[v]:=by
        have yJ:=fV.length _ Q;simp only[aE,aJ]at yJ;obtain⟨a,hu⟩:=db.1 yJ;rw[hu]at S ⊢;simp at S;rw[S]
       refine⟨v,by simp only[CR];exact⟨G3,BB,s2.sub hG4⟩,λl t=>?_⟩;have:=fin _ _ _ U (R 1) (λ_=>by rw[e2];rfl) (λh=>absurd rfl h) l t;rw[e2]at this
       simpa using this
      ·rw[if_neg B]at q;simp only[aa]at q;subst q;have adi:max n 1=n:=by omega
       obtain⟨G2,Q,s2⟩:=abR n (ahc n adi.symm);refine⟨.agg ((((xs.drop (i * row.k)).take row.k).drop o).take n).toArray,by simp only[CR];exact⟨_,rfl,fF.ofC Q s2⟩,λl t=>?_⟩;have:=fin _ _ _ U (R n) (λh=>absurd h B) (λ_=>by simp only[bj,bT,H];omega) l t
       simpa [B] using this
    ·cases q
   ·cases q
  ·cases q
 ·cases q
theorem alW(Y:Inv γ h0 io w0 s f w){T:TypeId}{x:Operand}{y:KX}{i o:Nat}{c:C}(K:zf P N (.fieldAddr T x i) (.fa o y)=I)(e:jm s (.fa o y)=Z c) :
  ∃v,CR γ w c v/\∀l,(execOp (fr f N).eval ⟨dst,.fieldAddr T x i,ty,pos,aft,gd⟩).run P l=.ok (.value v) l:=by
 simp only[zf,af]at K;obtain⟨S,h⟩:=K;have d:=cy Y S;unfold Vc at h
 split at h
 ·rename_i fs A
  split at h
  ·rename_i fd H;simp only[af,beq_iff_eq]at h;obtain⟨U,B⟩:=h
   split at B
   ·rename_i n V;simp only[oU]at B;obtain⟨m,rfl⟩:∃m,n=m+1:=⟨n - 1,by omega⟩
    have fin:∀b p,(fr f N).eval x=.pointer (Z ⟨b,p,O⟩)->∀l,(execOp (fr f N).eval ⟨dst,.fieldAddr T x i,ty,pos,aft,gd⟩).run P l=.ok (.value (.pointer (Z ⟨b,p+o,O⟩))) l:=
     λb p D l=>abw A H (λw=>run_sizeOf V w) U D
    simp only[jm]at e
    split at e
    ·rename_i b p t;rw[t]at d;simp only[CR]at d;simp only[aa]at e;subst e;exact⟨_,by simp only[CR],fin _ _ d⟩
    ·rename_i cs t;rw[t]at d;simp only[CR]at d;simp only[aa]at e;subst e;obtain⟨b,p,L,F,D,RM,Q,W,hh⟩:=d;obtain⟨G,h4,h5⟩:=fV.drop cs o RM;refine⟨_,?_,fin _ _ D⟩;simp only[CR];refine⟨b,p+o,L.drop o,G,rfl,h4,Q.sub h5,?_,?_⟩
     ·intro j a A;rw[jA]at A;rw[cV];exact W _ a A
     ·intro j X;rw[bT]at X;rw[cV];exact hh _ (by omega)
    ·rename_i r k R p t;rw[t]at d;simp only[CR]at d;simp only[aa]at e;subst e;obtain⟨g,q,n,cc,h1,h2⟩:=d;refine⟨_,?_,fin _ _ h2⟩;simp only[CR];exact⟨g,q,n,cc,h1,by rw[cV (q+R * k)]⟩
    ·cases e
   ·cases B
  ·cases h
 ·cases h
theorem alX(Q:Inv γ h0 io w0 s f w){T:TypeId}{x ix:Operand}{y j:KX}{k:Nat}{c:C}(df:zf P N (.indexAddr T x ix) (.ia k y j)=I)(d:jm s (.ia k y j)=Z c) :
  ∃v,CR γ w c v/\∀t,(execOp (fr f N).eval ⟨dst,.indexAddr T x ix,ty,pos,aft,gd⟩).run P t=.ok (.value v) t:=by
 simp only[zf,af]at df;obtain⟨⟨hx,hj⟩,h⟩:=df;have g:=cy Q hx;have D:=cy Q hj;unfold sliceB at h
 split at h
 ·rename_i a X;simp only[beq_iff_eq]at h;simp only[jm]at d
  split at d
  ·rename_i p fl es n q L;rw[q]at g;rw[L]at D;obtain⟨H,_⟩:=kL D
   split at d
   ·rename_i R;obtain⟨h1,rfl⟩:=R;simp only[fU,ak]at d;obtain⟨e,U,rfl⟩:=d;simp only[CR,Rp]at g;obtain⟨F,⟨A,m,cc,B,q2,q3,q4,q5,q6,K,l⟩,W⟩:=g;have iM:=(bm.1 U).1;rcases l with ⟨l,_⟩|⟨_,b,o,xs,G,rfl,rfl,a2,a3⟩
    ·omega
    ·refine⟨.pointer (Z ⟨b,o+n.toNat * p,O⟩),?_,λt=>wg X (λw=>run_sizeOf h w) B H (by omega) (by omega)⟩;obtain⟨G',RM,S⟩:=a2.at_ K U;simp only[CR];refine⟨b,_,_,G',rfl,RM,W.sub (λbe q=>by simp[S be q]),a3.sub _ _,?_⟩;intro i uU;have JV:=K e (gD U);have hs:=W (b,o+m * p) (by simp);simp only at hs
     have:n.toNat * p+p<=m * p:=by
      rw[<- n8];exact ee _ (by omega)
     omega
   ·cases d
  ·rename_i r n q L;rw[q]at g;rw[L]at D;obtain⟨H,_⟩:=kL D
   split at d
   ·rename_i row hl
    split at d
    ·rename_i R;obtain⟨h1,h2,rfl⟩:=R;simp only[aa]at d;subst d;simp only[CR]at g;obtain⟨g,_⟩:=g;obtain⟨F,hR,_,sE⟩:=Q.rw r row hl;obtain⟨A,n',c',B,q2,q3,q4,q5,q6,K,l⟩:=hR;rcases l with ⟨rfl,l,_⟩|⟨Y,V,xs,G,rfl,a2,a3,a4,a5,a6,a7,a8,a9,tM⟩
     ·omega
     ·refine⟨.pointer (Z ⟨Y,V+n.toNat * row.k,O⟩),?_,λt=>wg X (λw=>run_sizeOf h w) (g.trans B) H (by omega) (by omega)⟩;simp only[CR];exact⟨Y,V,n',c',B,by simp⟩
    ·cases d
   ·cases d
  ·cases d
 ·cases h
theorem Yb{d:Operand->Value}{x y:Operand}{b o n:Nat}{i:Nat}{a:Int}{T c:TypeId}{k:Nat}(l:P.underlying T=Z (.array n c))(m:∀w,(oS c).run P w=.ok k w)(g:d x=.pointer (Z ⟨b,o,O⟩))(e:d y=.int .i64 a)(j:a=(i:Int))(h:i < n) :
  (execOp d ⟨dst,.indexAddr T x y,ty,pos,aft,gd⟩).run P w=.ok (.value (.pointer (Z ⟨b,o+i * k,O⟩))) w:=by
 subst j;simp[execOp,Instr.indexAt,g,e,asIntOf,Instr.sureAddr,run_underlying l,m,pz,h]
theorem aiz(i:Inv γ h0 io w0 s f w){T:TypeId}{x ix:Operand}{y j:KX}{n k:Nat}{c:C}(l:zf P N (.indexAddr T x ix) (.ixa n k y j)=I)(d:jm s (.ixa n k y j)=Z c) :
  ∃v,CR γ w c v/\∀g,(execOp (fr f N).eval ⟨dst,.indexAddr T x ix,ty,pos,aft,gd⟩).run P g=.ok (.value v) g:=by
 simp only[zf,af]at l;obtain⟨⟨A,F⟩,e⟩:=l;have h:=cy i A;have p:=cy i F;unfold afX at e
 split at e
 ·rename_i m a B;simp only[af,beq_iff_eq]at e;obtain⟨rfl,t⟩:=e;simp only[jm]at d
  split at d
  ·rename_i b o q H D;rw[H]at h;rw[D]at p;obtain⟨r,_⟩:=kL p;simp only[CR]at h
   split at d
   ·rename_i G;simp only[aa]at d;subst d;exact⟨_,by simp only[CR],λg=>Yb B (λw=>run_sizeOf t w) h r (by omega) G.2⟩
   ·cases d
  ·cases d
 ·cases e
theorem aiA(g:Inv γ h0 io w0 s f w){T:TypeId}{x ix:Operand}{y j:KX}{c:C}(h:zf P N (.index T x ix) (.XA y j)=I)(a:jm s (.XA y j)=Z c) :
  ∃v,CR γ w c v/\∀b,(execOp (fr f N).eval ⟨dst,.index T x ix,ty,pos,aft,gd⟩).run P b=.ok (.value v) b:=by
 simp only[zf,af]at h;obtain⟨⟨m,q⟩,d⟩:=h;have e:=cy g m;have i:=cy g q;unfold isStr at d
 split at d
 ·rename_i o;simp only[jm]at a
  split at a
  ·rename_i t n A p;rw[A]at e;rw[p]at i;obtain⟨k,_⟩:=kL i;obtain⟨l,_⟩:=C1 e
   split at a
   ·rename_i r;simp only[aa]at a;subst a;refine⟨_,iQ ?_,λb=>Yc o l k (by omega) r.2⟩;have:=mF t n.toNat;simp[IntKind.wrap,IntKind.bits,IntKind.signed];omega
   ·cases a
  ·cases a
 ·cases d
theorem sW{n:Int}(h:IntKind.i64.wrap n=n):-9223372036854775808<=n/\n<=9223372036854775807:=by
 simp[IntKind.wrap,IntKind.bits,IntKind.signed]at h
 split at h<;>omega
theorem ij{n:Int}(h:-9223372036854775808<=n/\n<=9223372036854775807):IntKind.i64.wrap n=n:=IntWalk.i64_in _ h
theorem wrap_wrap(k:IntKind)(n:Int):k.wrap (k.wrap n)=k.wrap n:=by
 cases k<;>simp only[IntKind.wrap,IntKind.bits,IntKind.signed]<;>(repeat' split)<;>simp_all<;>omega
theorem aix(Q:Inv γ h0 io w0 s f w){op:BinOp}{T S:TypeId}{x L:Operand}{y K:KX}{c:C}(R:zf P N (.binOp op T x L S) (.bin op y K)=I)(m:jm s (.bin op y K)=Z c) :
  ∃v,CR γ w c v/\∀g,(execOp (fr f N).eval ⟨dst,.binOp op T x L S,ty,pos,aft,gd⟩).run P g=.ok (.value v) g:=by
 simp only[zf,af]at R;obtain⟨⟨_,V⟩,Y⟩:=R;have t:=cy Q V;have D:=cy Q Y;simp only[jm]at m;unfold Kf at m
 split at m
 ·rename_i k a U b H F;rw[H]at t;rw[F]at D;obtain⟨i,l⟩:=kL t;obtain⟨h,q⟩:=kL D
  split at m
  ·rename_i X;subst X;simp only[ak]at m;obtain⟨d,hd,rfl⟩:=m;unfold Re at hd
   split at hd
   all_goals (try (simp only[aa]at hd;subst hd))
   ·exact⟨_,iQ (wrap_wrap _ _),λg=>by simp[execOp,i,h,binOp,Op.intArith,eqGuard]⟩
   ·exact⟨_,iQ (wrap_wrap _ _),λg=>by simp[execOp,i,h,binOp,Op.intArith,eqGuard]⟩
   ·exact⟨_,iQ (wrap_wrap _ _),λg=>by simp[execOp,i,h,binOp,Op.intArith,eqGuard]⟩
   ·exact⟨_,jl,λg=>Mo i h rfl⟩
   ·exact⟨_,jl,λg=>akp i h rfl⟩
   ·exact⟨_,jl,λg=>ako i h rfl⟩
   ·exact⟨_,jl,λg=>akn i h rfl⟩
   ·exact⟨_,jl,λg=>akm i h rfl⟩
   ·exact⟨_,jl,λg=>akq i h (by simp)⟩
   ·split at hd
    ·rename_i j;obtain⟨rfl,o,A⟩:=j;simp only[aa]at hd;subst hd;have B:=sW l;have r:0<=a / b/\a / b<=a:=⟨Int.ediv_nonneg o (by omega),oT _ o⟩
     have p:¬b=0:=by omega
     have e:a.tdiv b=a / b:=Int.tdiv_eq_ediv_of_nonneg o;have n:IntKind.i64.wrap (a / b)=a / b:=ij (by omega);exact⟨_,iQ n,λg=>by simp[execOp,i,h,binOp,Op.intDiv,eqGuard,p,e,n]⟩
    ·split at hd
     ·rename_i j;obtain⟨rfl,o,A⟩:=j;simp only[aa]at hd;subst hd;have B:=sW l;have r:0<=-a / b/\-a / b<=-a:=⟨Int.ediv_nonneg (by omega) (by omega),oT _ (by omega)⟩
      have p:¬b=0:=by omega
      have e:a.tdiv b=-(-a / b):=by
       have:=Int.neg_tdiv (-a) b;rw[tJ]at this;rw[this,Int.tdiv_eq_ediv_of_nonneg (by omega)]
      have n:IntKind.i64.wrap (-(-a / b))=-(-a / b):=ij (by omega);exact⟨_,iQ n,λg=>by simp[execOp,i,h,binOp,Op.intDiv,eqGuard,p,e,n]⟩
     ·cases hd
   ·split at hd
    ·rename_i j;obtain⟨rfl,o,A⟩:=j;simp only[aa]at hd;subst hd;have B:=sW l;have r:0<=a % b/\a % b < b:=⟨wH _ (by omega),rB _ (by omega)⟩
     have G:=sW q;have p:¬b=0:=by omega
     have e:a.tmod b=a % b:=Int.tmod_eq_emod_of_nonneg o;have n:IntKind.i64.wrap (a % b)=a % b:=ij (by omega);exact⟨_,iQ n,λg=>by simp[execOp,i,h,binOp,Op.intDiv,eqGuard,p,e]⟩
    ·split at hd
     ·rename_i j;obtain⟨rfl,o,A⟩:=j;simp only[aa]at hd;subst hd;have r:0<=-a % b/\-a % b < b:=⟨wH _ (by omega),rB _ (by omega)⟩
      have G:=sW q;have p:¬b=0:=by omega
      have e:a.tmod b=-(-a % b):=by
       have:=Int.neg_tmod (-a) b;rw[tJ]at this;rw[this,Int.tmod_eq_emod_of_nonneg (by omega)]
      have n:IntKind.i64.wrap (-(-a % b))=-(-a % b):=ij (by omega);exact⟨_,iQ n,λg=>by simp[execOp,i,h,binOp,Op.intDiv,eqGuard,p,e]⟩
     ·cases hd
   ·exact⟨_,iQ (wrap_wrap _ _),λg=>by simp[execOp,i,h,binOp,Op.intBits,eqGuard]⟩
   ·exact⟨_,iQ (wrap_wrap _ _),λg=>by simp[execOp,i,h,binOp,Op.intBits,eqGuard]⟩
   ·cases hd
  ·simp only[ak]at m;obtain⟨d,hd,rfl⟩:=m;unfold Xz at hd
   split at hd
   ·split at hd
    ·rename_i j;obtain⟨rfl,o,A⟩:=j;cases hd;have B:=sW l;have W:(1:Int)<=2 ^ b.toNat:=Int.pow_pos (by decide);have r:-9223372036854775808<=a / 2 ^ b.toNat/\a / 2 ^ b.toNat<=9223372036854775807:=by
      constructor
      ·rw[Int.le_ediv_iff_mul_le (by omega)];have:=Int.mul_le_mul_of_nonpos_left (by decide:(-9223372036854775808:Int)<=0) W;omega
      ·have:=Int.ediv_le_ediv (c:=2 ^ b.toNat) (by omega) B.2;have h3:=oT (a:=9223372036854775807) (2 ^ b.toNat) (by omega);omega
     have n:IntKind.i64.wrap (a / 2 ^ b.toNat)=a / 2 ^ b.toNat:=ij r;exact⟨_,iQ n,λg=>by
      have:=shift_shr .i64 U a b o (by simp[IntKind.bits];omega);simp[execOp,i,h,binOp,eqGuard]⟩
    ·cases hd
   ·cases hd
 ·rename_i a b H F;rw[H]at t;rw[F]at D;obtain⟨i,l⟩:=C1 t;obtain⟨h,q⟩:=C1 D;simp only[ak]at m;obtain⟨d,hd,rfl⟩:=m;unfold Rf at hd
  split at hd
  ·split at hd
   ·rename_i j;simp only[aa]at hd;subst hd;have p:¬(((a.size+b.size:Nat):Int) > IntKind.i64.max):=by simp[IntKind.max,IntKind.signed,IntKind.bits];simp[maxLen]at j;omega
    refine⟨_,Ba (by simpa using j),λg=>?_⟩;simp only[execOp,i,h,binOp,Op.stringOp,eqGuard,if_neg p];simp
   ·cases hd
  ·simp only[aa]at hd;subst hd;exact⟨_,jl,λg=>afA i h rfl⟩
  ·simp only[aa]at hd;subst hd;exact⟨_,jl,λg=>afC i h (by simp)⟩
  ·simp only[aa]at hd;subst hd;exact⟨_,jl,λg=>by simp[execOp,i,h,binOp,Op.stringOp,eqGuard,kG]⟩
  ·simp only[aa]at hd;subst hd;exact⟨_,jl,λg=>by simp[execOp,i,h,binOp,Op.stringOp,eqGuard,kG,n7]⟩
  ·simp only[aa]at hd;subst hd;exact⟨_,jl,λg=>by simp[execOp,i,h,binOp,Op.stringOp,eqGuard,kG,n7]⟩
  ·simp only[aa]at hd;subst hd;exact⟨_,jl,λg=>by simp[execOp,i,h,binOp,Op.stringOp,eqGuard,kG]⟩
  ·cases hd
 ·cases m
theorem aiw(n:Inv γ h0 io w0 s f w){op:BinOp}{T q:TypeId}{x j:Operand}{y i:KX}{c:C}(p:zf P N (.binOp op T x j q) (.TL op y i)=I)(e:jm s (.TL op y i)=Z c) :
  ∃v,CR γ w c v/\∀g,(execOp (fr f N).eval ⟨dst,.binOp op T x j q,ty,pos,aft,gd⟩).run P g=.ok (.value v) g:=by
 simp only[zf,af]at p;obtain⟨⟨⟨_,t⟩,B⟩,h⟩:=p;have m:=cy n t;have r:=cy n B;unfold isBool at h
 split at h
 ·rename_i o;simp only[jm]at e
  split at e
  ·rename_i a b D A;rw[D]at m;rw[A]at r;have l:=sK m;have k:=sK r;simp only[ak]at e;obtain⟨d,hd,rfl⟩:=e;unfold Ul at hd
   split at hd
   ·simp only[aa]at hd;subst hd;exact⟨_,jl,λg=>afy o l k rfl⟩
   ·simp only[aa]at hd;subst hd;exact⟨_,jl,λg=>afz o l k (by simp)⟩
   ·cases hd
  ·cases e
 ·cases h
theorem Gd{w:World}:∀(es:M (M D)) {d:M Value} {G:Fp} {b:M Int},fQ w es d G->bytesOf es=Z b->d=b.map (Value.int .u8)/\b.length=es.length
 |[],d,G,b,h,a=>by
  simp only[fQ]at h;simp only[bytesOf,aa]at a;subst a;simp[h.1]
 |e::es,d,G,b,h,a=>by
  simp only[fQ]at h;obtain⟨v1,v2,x,t,rfl,rfl,g,l⟩:=h;unfold bytesOf at a
  split at a
  ·rename_i m;cases m
  ·rename_i n p c;simp only[bZ]at c;obtain⟨rfl,rfl⟩:=c;simp only[ak]at a;obtain⟨o,k,rfl⟩:=a;obtain⟨j,i⟩:=Gd es l k;simp only[fV,Rp]at g;obtain⟨v,q,r,G2,rfl,_,⟨rfl,_⟩,rfl,_⟩:=g;simp[j,i]
  ·cases a
theorem aiy(R:Inv γ h0 io w0 s f w){T t:TypeId}{x:Operand}{y:KX}{c:C}(S:zf P N (.convert T t x) (.Mw y)=I)(j:jm s (.Mw y)=Z c) :
  ∃v,CR γ w c v/\∀k,rG γ s w k->(execOp (fr f N).eval ⟨dst,.convert T t x,ty,pos,aft,gd⟩).run P k=.ok (.value v) k:=by
 simp only[zf,af]at S;obtain⟨⟨hx,b⟩,d⟩:=S;have q:=cy R hx;simp only[jm]at j
 split at j
 ·rename_i r hb;rw[hb]at q;simp only[CR]at q
  split at j
  ·rename_i row Q
   split at j
   ·rename_i hc;simp only[ak]at j;obtain⟨p,e,rfl⟩:=j;obtain⟨F,hR,_,Y⟩:=R.rw r row Q;obtain⟨A,n,U,K,q2,q3,q4,q5,q6,q7,q8⟩:=hR;rcases q8 with ⟨a1,hc0,_⟩|⟨g,o,V,G,a1,a2,a3,a4,a5,a6,a7,a8,a9,W⟩
    ·have Bw:row.es=[]:=cG.1 (by omega);rw[Bw]at e;simp only[bytesOf,aa]at e;subst e;subst a1;refine⟨.string ByteArray.empty,Ba (cB _),λk L=>?_⟩;unfold isStr at b
     split at b
     ·rename_i l;unfold adx at d
      split at d
      ·rename_i a D
       split at d
       ·rename_i H;have h:=run_convert_bytes_nil (P:=P) k T a D H n U t l;have B:=q.1.trans K;simp only[execOp,B,h,Sem.run_bind,Result.andThen_ok];rfl
       ·cases d
      ·cases d
     ·cases b
    ·have hg:g∈F:=by
      cases hd:row.deep with
      |true=>rw[(a9 hd).1];simp
      |false=>rw[(W hd).1];simp
     obtain⟨k1,k2⟩:=Gd _ a4 e;subst a1;refine⟨_,Ba ?_,λk L=>?_⟩
     ·show (strOfNums p).size<=maxLen;rw[strOfNums_size];omega
     ·have X:jo k g o V:=a5.eB (L.rw r row Q g (Y g hg));unfold isStr at b
      split at b
      ·rename_i l;unfold adx at d
       split at d
       ·rename_i a D
        split at d
        ·rename_i H;have h:=run_convert_bytes_arg (P:=P) k T a D H g o n U p (by omega) (λi uU=>by
          have m:i < p.length:=by omega
          have:=X i (.int .u8 p[i]) (by rw[k1];simp[m]);rw[this];simp[m]) t l
         have B:=q.1.trans K;simp only[execOp,B,h,Sem.run_bind,Result.andThen_ok];rfl
        ·cases d
       ·cases d
      ·cases b
   ·cases j
  ·cases j
 ·cases j
theorem aiC(Y:Inv γ h0 io w0 s f w){T:TypeId}{x ix:Operand}{y j:KX}{c:C}(df:zf P N (.slice T x O (Z ix) O) (.slc y j)=I)(l:jm s (.slc y j)=Z c) :
  ∃v,CR γ w c v/\∀q,(execOp (fr f N).eval ⟨dst,.slice T x O (Z ix) O,ty,pos,aft,gd⟩).run P q=.ok (.value v) q:=by
 simp only[zf,af]at df;obtain⟨⟨⟨hx,hj⟩,_⟩,m⟩:=df;have D:=cy Y hx;have FD:=cy Y hj;obtain⟨d,m⟩:=cn.1 m;unfold Jw at m
 split at m
 ·rename_i i p;simp only[jm]at l
  split at l
  ·rename_i k fl es a hb hn;rw[hb]at D;rw[hn]at FD;obtain⟨uc,_⟩:=kL FD
   split at l
   ·rename_i hc;simp only[aa]at l;subst l;simp only[CR,Rp]at D;obtain⟨F,⟨A,n,K,q1,q2,q3,S,R,Q,t,L⟩,W⟩:=D;have B:(es.take a.toNat).length=a.toNat:=by rw[bj];omega
    refine⟨.slice A a.toNat K,?_,λq=>OJ p (λw=>run_sizeOf m w) q1 uc (by omega) (by omega)⟩;by_cases h0:a.toNat=0
    ·simp only[CR,Rp];exact⟨[],⟨A,a.toNat,K,rfl,B.symm,by omega,S,λH e l=>R H e (cz l),Q,λe l=>t e (cz l),.inl ⟨h0,rfl⟩⟩,λ_ h=>by simp at h⟩
    ·rcases L with L|⟨hp,b,o,xs,G,p1,V,U,p4⟩
     ·omega
     ·rw[<- bh a.toNat es]at U;obtain⟨v1,v2,F1,F2,rfl,rfl,X,k2⟩:=fQ.gE _ U;have yJ:=fQ.length _ X (λe l=>t e (cz l));rw[B]at yJ;simp only[CR,Rp];refine⟨(b,o+a.toNat * k)::F1,⟨A,a.toNat,K,rfl,B.symm,by omega,S,λH e l=>R H e (cz l),Q,λe l=>t e (cz l),.inr ⟨by omega,b,o,v1,F1,p1,rfl,X,?_⟩⟩,?_⟩
      ·intro j g p;exact p4 j g (by rw[dW (bm.1 p).1];exact p)
      ·intro be r;rcases aP.1 r with rfl|r
       ·have:=W (b,o+n * k) (by rw[V];simp);refine aL ?_ this;have:a.toNat * k<=n * k:=ee k (by omega);show o+a.toNat * k<=o+n * k;omega
       ·exact W be (by rw[V];simp[r])
   ·cases l
  ·cases l
 ·cases m
theorem aiD(j:Inv γ h0 io w0 s f w){T:TypeId}{x:Operand}{m k:u Operand}{y:KX}{a b:u KX}{c:C}(p:zf P N (.slice T x m k O) (.MI y a b)=I)(e:jm s (.MI y a b)=Z c) :
  ∃v,CR γ w c v/\∀g,(execOp (fr f N).eval ⟨dst,.slice T x m k O,ty,pos,aft,gd⟩).run P g=.ok (.value v) g:=by
 simp only[zf,af]at p;obtain⟨⟨⟨A,D⟩,F⟩,h⟩:=p;have n:=cy j A;unfold isStr at h
 split at h
 ·rename_i B;simp only[jm]at e
  split at e
  ·rename_i t G;rw[G]at n;obtain⟨r,H⟩:=C1 n
   split at e
   ·rename_i l d q i
    split at e
    ·rename_i o;simp only[aa]at e;subst e;refine⟨_,Ba ?_,λg=>Yd B r (ox j D q) (ox j F i) o.1 o.2⟩;rw[ByteArray.size_extract];omega
    ·cases e
   ·cases e
  ·cases e
 ·cases h
theorem aiB(Q:Inv γ h0 io w0 s f w){T:TypeId}{x:Operand}{lo B:u Operand}{y:KX}{a b:u KX}{k:Nat}{c:C}(df:zf P N (.slice T x lo B O) (.v8 k y a b)=I)(i:jm s (.v8 k y a b)=Z c) :
  ∃v,CR γ w c v/\∀r,(execOp (fr f N).eval ⟨dst,.slice T x lo B O,ty,pos,aft,gd⟩).run P r=.ok (.value v) r:=by
 simp only[zf,af]at df;obtain⟨⟨⟨hx,MD⟩,R⟩,q⟩:=df;have L:=cy Q hx;have q:=eq_of_beq q;unfold Jw at q
 split at q
 ·rename_i g hu;simp only[jm]at i
  split at i
  ·rename_i m fl es hb;rw[hb]at L
   split at i
   ·rename_i l d sy K
    split at i
    ·rename_i hc;obtain⟨rfl,c1,c2⟩:=hc;simp only[aa]at i;subst i;simp only[CR,Rp]at L;obtain⟨F,⟨A,n,V,q1,q2,q3,q4,q5,q6,H,q8⟩,lT⟩:=L;have p:((es.take d).drop l).length=d - l:=by simp;omega
     have t:∀e∈(es.take d).drop l,e∈es:=λe i=>cz (iD i);have U:MP (fr f N).eval B n d:=by rw[q2];exact ox Q R K
     have mu:=λr=>E8 (w:=r) (dst:=dst) (ty:=ty) (pos:=pos) (aft:=aft) (gd:=gd) hu (λw=>run_sizeOf q w) q1 (ox Q MD sy) U c1 (by omega);refine⟨_,?_,mu⟩;by_cases h0:d - l=0
     ·simp only[CR,Rp];exact⟨[],⟨_,d - l,V - l,rfl,p.symm,by omega,by omega,λS e i=>q5 S e (t e i),q6,λe i=>H e (t e i),.inl ⟨h0,rfl⟩⟩,λ_ h=>by simp at h⟩
     ·rcases q8 with q8|⟨hp,b,o,xs,G,p1,p2,p3,p4⟩
      ·omega
      ·have qL:¬V=l:=by omega
       rw[<- bh d es]at p3;obtain⟨v1,v2,F1,F2,rfl,rfl,m0,_⟩:=fQ.gE _ p3;rw[<- bh l (es.take d)]at m0;obtain⟨Y,X,G1,G2,rfl,rfl,m1,m2⟩:=fQ.gE _ m0;have W:=fQ.length _ m1 (λe i=>H e (cz (cz i)));have VB:((es.take d).take l).length=l:=by simp;omega
       rw[VB]at W;rw[if_neg qL,p1];simp only[CR,Rp];refine⟨(b,o+l * m+(d - l) * m)::G2,⟨Z ⟨b,o+l * m,O⟩,d - l,V - l,by simp[Addr.add],p.symm,by omega,by omega,λS e i=>q5 S e (t e i),q6,λe i=>H e (t e i),.inr ⟨by omega,b,o+l * m,X,G2,rfl,rfl,m2,?_⟩⟩,?_⟩
       ·intro j v hj;have e1:((Y++X)++v2)[Y.length+j]?=Z v:=by
         rw[bE,rn (by omega),ur,dW (bm.1 hj).1];exact hj
        have e2:=p4 _ _ e1;rw[W,<- cV]at e2;exact e2
       ·intro be D;rcases aP.1 D with rfl|D
        ·have h9:=lT (b,o+n * m) (by rw[p2];simp);refine aL ?_ h9;have h8:l * m+(d - l) * m=d * m:=by rw[<- lj];congr 1;omega
         have h7:d * m<=n * m:=ee m (by omega);show o+l * m+(d - l) * m<=o+n * m;omega
        ·exact lT be (by rw[p2];simp[D])
    ·cases i
   ·cases i
  ·cases i
 ·cases q
theorem pV(G:Inv γ h0 io w0 s f w){op:Op}{tS:KO}{c:C}(B:zf P N op tS=I)(h:jm s tS=Z c) :
  ∃v,CR γ w c v/\∀l,(tS.Nx=I->rG γ s w l)->(execOp (fr f N).eval ⟨dst,op,ty,pos,aft,gd⟩).run P l=.ok (.value v) l:=by
 have L:=B;unfold zf at B
 split at B
 ·simp only[jm,aa]at h;subst h;exact⟨_,cy G B,λl _=>iC rfl⟩
 ·simp only[jm,aa]at h;subst h;exact⟨_,cy G B,λl _=>ku rfl⟩
 ·simp only[af]at B;obtain⟨⟨D,q⟩,S⟩:=B;simp only[jm]at h
  split at h
  ·rename_i b H;have j:=cy G D;rw[H]at j;have K:=sK j;simp only[aa]at h;subst h;cases b
   ·exact⟨_,cy G S,λl _=>Mp K rfl⟩
   ·exact⟨_,cy G q,λl _=>Mq K rfl⟩
  ·cases h
 ·obtain⟨v,D,q⟩:=aav (dst:=dst) (ty:=ty) (pos:=pos) (aft:=aft) (gd:=gd) G L h;exact⟨v,D,λl _=>q l⟩
 ·obtain⟨v,D,q⟩:=ad4 (dst:=dst) (ty:=ty) (pos:=pos) (aft:=aft) (gd:=gd) G L h;exact⟨v,D,λl hs=>q l (hs rfl)⟩
 ·obtain⟨v,D,q⟩:=alW (dst:=dst) (ty:=ty) (pos:=pos) (aft:=aft) (gd:=gd) G L h;exact⟨v,D,λl _=>q l⟩
 ·obtain⟨v,D,q⟩:=alX (dst:=dst) (ty:=ty) (pos:=pos) (aft:=aft) (gd:=gd) G L h;exact⟨v,D,λl _=>q l⟩
 ·obtain⟨v,D,q⟩:=aiE (dst:=dst) (ty:=ty) (pos:=pos) (aft:=aft) (gd:=gd) G L h;exact⟨v,D,λl _=>q l⟩
 ·obtain⟨v,D,q⟩:=aiz (dst:=dst) (ty:=ty) (pos:=pos) (aft:=aft) (gd:=gd) G L h;exact⟨v,D,λl _=>q l⟩
 ·obtain⟨v,D,q⟩:=aiA (dst:=dst) (ty:=ty) (pos:=pos) (aft:=aft) (gd:=gd) G L h;exact⟨v,D,λl _=>q l⟩
 ·simp only[af]at B;have e:=of_decide_eq_true B.1.1;subst e;obtain⟨v,D,q⟩:=aix (dst:=dst) (ty:=ty) (pos:=pos) (aft:=aft) (gd:=gd) G L h;exact⟨v,D,λl _=>q l⟩
 ·simp only[af]at B;have e:=of_decide_eq_true B.1.1.1;subst e;obtain⟨v,D,q⟩:=aiw (dst:=dst) (ty:=ty) (pos:=pos) (aft:=aft) (gd:=gd) G L h;exact⟨v,D,λl _=>q l⟩
 ·simp only[jm]at h
  split at h
  ·rename_i b H;have j:=cy G B;rw[H]at j;have K:=sK j;simp only[aa]at h;subst h;exact⟨_,jl,λl _=>aco K⟩
  ·cases h
 ·simp only[jm]at h
  split at h
  ·rename_i k a H;have j:=cy G B;rw[H]at j;obtain⟨K,_⟩:=kL j;simp only[aa]at h;subst h;exact⟨_,iQ (wrap_wrap _ _),λl _=>by simp[execOp,K,Op.unary,Op.intArith]⟩
  ·cases h
 ·simp only[af,beq_iff_eq]at B;obtain⟨⟨D,q⟩,S⟩:=B;simp only[jm]at h
  split at h
  ·rename_i k a H;have j:=cy G D;rw[H]at j;obtain⟨K,_⟩:=kL j;simp only[aa]at h;subst h;refine⟨_,iQ (wrap_wrap _ _),λl _=>?_⟩;unfold ZQ at q S
   split at S
   ·rename_i k' kz;simp only[aa]at S;subst S
    split at q
    ·rename_i k2 hk2;simp[execOp,convert,K,run_underlying kz,run_underlying hk2,Conv.intToInt]
    ·cases q
   ·cases S
  ·cases h
 ·rename_i V y
  split at B
  ·rename_i x T R Q Y;simp only[af]at B;obtain⟨D,q⟩:=B;obtain⟨Yu,args,X⟩:=V;simp only at R Q Y
   subst R;have U:args=#[x]:=by rw[<- Q]
   have et:X=#[T]:=by rw[<- Y]
   subst U et;have j:=cy G D;unfold Ny at q
   split at q
   ·rename_i d W;have wr:∀n:Nat,n<=maxLen->IntKind.i64.wrap (n:Int)=n:=λn hn=>ij (by simp[maxLen]at hn;omega);simp only[jm]at h
    split at h
    ·rename_i k fl es H;rw[H]at j;simp only[CR,Rp]at j;obtain⟨F,⟨A,m,cc,q1,q2,q3,q4,_⟩,lT⟩:=j;simp only[aa]at h;subst h;subst q2;exact⟨_,iQ (wr _ (by omega)),λl _=>Mn W q1⟩
    ·rename_i k fl H;rw[H]at j;simp only[CR]at j;simp only[aa]at h;subst h;exact⟨_,iQ (wr 0 (by omega)),λl _=>Mn W j.1⟩
    ·rename_i r H;rw[H]at j;simp only[CR]at j
     split at h
     ·rename_i row hl;simp only[aa]at h;subst h;obtain⟨F,hR,_,sE⟩:=G.rw r row hl;obtain⟨A,n',c',q1,q2,q3,q4,_⟩:=hR;subst q2;exact⟨_,iQ (wr _ (by omega)),λl _=>Mn W (j.1.trans q1)⟩
     ·cases h
    ·cases h
   ·cases q
  ·cases B
 ·rename_i V y
  split at B
  ·rename_i x T R Q Y;simp only[af]at B;obtain⟨D,q⟩:=B;obtain⟨Yu,args,X⟩:=V;simp only at R Q Y
   subst R;have U:args=#[x]:=by rw[<- Q]
   have et:X=#[T]:=by rw[<- Y]
   subst U et;have j:=cy G D;unfold isStr at q
   split at q
   ·rename_i W;simp only[jm]at h
    split at h
    ·rename_i t H;rw[H]at j;obtain⟨K,hl⟩:=C1 j;simp only[aa]at h;subst h;exact⟨_,iQ (ij (by simp[maxLen]at hl;omega)),λl _=>afB W K⟩
    ·cases h
   ·cases q
  ·cases B
 ·rename_i V y y'
  split at B
  ·rename_i x x' R Q;simp only[af]at B;obtain⟨Yu,args,X⟩:=V;simp only at R Q
   subst R;have U:args=#[x,x']:=by rw[<- Q]
   subst U;have j:=cy G B.1;have B1:=cy G B.2;simp only[jm]at h
   split at h
   ·rename_i a b H lF;rw[H]at j;rw[lF]at B1;obtain⟨K,hw⟩:=kL j;obtain⟨Nu,hw'⟩:=kL B1;simp only[aa]at h;subst h;exact⟨_,iQ (by split<;>assumption),λl _=>by simp[execOp,resolve,invoke,builtin,Builtin.min_,Builtin.min2,K,Nu]⟩
   ·cases h
  ·cases B
 ·rename_i V y y'
  split at B
  ·rename_i x x' R Q;simp only[af]at B;obtain⟨Yu,args,X⟩:=V;simp only at R Q
   subst R;have U:args=#[x,x']:=by rw[<- Q]
   subst U;have j:=cy G B.1;have B1:=cy G B.2;simp only[jm]at h
   split at h
   ·rename_i a b H lF;rw[H]at j;rw[lF]at B1;obtain⟨K,hw⟩:=kL j;obtain⟨Nu,hw'⟩:=kL B1;simp only[aa]at h;subst h;exact⟨_,iQ (by split<;>assumption),λl _=>by simp[execOp,resolve,invoke,builtin,Builtin.max_,Builtin.max2,K,Nu]⟩
   ·cases h
  ·cases B
 ·simp only[af,beq_iff_eq]at B;obtain⟨D,rfl⟩:=B;have j:=cy G D;simp only[jm]at h
  split at h
  ·rename_i cs H;rw[H]at j;simp only[CR]at j;obtain⟨vs,q,S⟩:=j;rw[fU]at h;obtain⟨v,K,hc⟩:=S.at_ h;exact⟨v,hc,λl _=>TD q (by simpa using K)⟩
  ·cases h
 ·obtain⟨v,D,q⟩:=aiC (dst:=dst) (ty:=ty) (pos:=pos) (aft:=aft) (gd:=gd) G L h;exact⟨v,D,λl _=>q l⟩
 ·obtain⟨v,D,q⟩:=aiD (dst:=dst) (ty:=ty) (pos:=pos) (aft:=aft) (gd:=gd) G L h;exact⟨v,D,λl _=>q l⟩
 ·obtain⟨v,D,q⟩:=aiB (dst:=dst) (ty:=ty) (pos:=pos) (aft:=aft) (gd:=gd) G L h;exact⟨v,D,λl _=>q l⟩
 ·have j:=cy G B;simp only[jm]at h
  split at h
  ·rename_i b o H;simp only[aa]at h;subst h;rw[H]at j;refine⟨_,j,λl _=>?_⟩;simp only[CR]at j;simp[execOp,j]
  ·rename_i cs H;simp only[aa]at h;subst h;rw[H]at j;refine⟨_,j,λl _=>?_⟩;simp only[CR]at j;obtain⟨b,o,vs,F,j,_⟩:=j;simp[execOp,j]
  ·rename_i r k i o H;simp only[aa]at h;subst h;rw[H]at j;refine⟨_,j,λl _=>?_⟩;simp only[CR]at j;obtain⟨g,p,n,c,_,j⟩:=j;simp[execOp,j]
  ·cases h
 ·obtain⟨v,D,q⟩:=aiy (dst:=dst) (ty:=ty) (pos:=pos) (aft:=aft) (gd:=gd) G L h;exact⟨v,D,λl hs=>q l (hs rfl)⟩
 ·cases B
end
end
section
open Go.RowKit
inductive FOk:Option Nat->Fm->Fm->Prop where
 |skip {f:Fm}:FOk none f f
 |put {d:Nat} {f:Fm} {v:Value}:FOk (some d) f (FQ f d v)
structure Tr (d:Option Nat) (X:List Nat) (γ:Gh) (w:World) (γ':Gh) (w':World) (f f':Fm):Prop where
 OQ:wK γ (λo=>∃i∈X,o=.box i\/o=.row i) w w'
 β:∀b,d≠some b->γ'.β b=γ.β b
 h:∀g,γ.h g<=γ'.h g
 fr:FOk d f f'
theorem wK.refl(b:Gh)(a:Own->Prop)(w:World):wK b a w w:=⟨rfl,rfl,rfl,au _,λ_ _ _=>rfl,λ_ _ _=>rfl,λ_ h=>h⟩
section
variable {γ:Gh} {h0:Nat->Nat} {io:M Nat} {w0:World} {s:St} {f:Fm} {w:World}
theorem kJ(h:Inv γ h0 io w0 s f w){e:World}(b:Bk w.heap.size w e)(a:Own->Prop):wK γ a w e where
 os:=b.os
 tape:=b.tape
 output:=b.output
 size:=b.size
 block g c _:=b.block g c
 cell g j i:=by
  rcases dU g w.heap.size with d|d
  ·exact World.cell?_of_block (w:=w) (b.block g d)
  ·have:=h.gy g d;omega
 gW g c:=⟨cA c.1 b.size,λj=>by rw[World.frozen?_of_block (w:=w) (b.block g c.1)];exact c.2 j⟩
theorem Inv.Mv(b:Inv γ h0 io w0 s f w){a:World}(c:Bk w.heap.size w a):Inv γ h0 io w0 s f a:=
 b.OQ (kJ b c (λ_=>False)) (λh=>h) (λ_ h=>h.elim) (λ_ h=>h.elim)
theorem Inv.rk(a:Inv γ h0 io w0 s f w){g:Nat}(b:w.heap.size<=g):γ.ω g=.free:=by
 rcases jK (γ.ω g=.free) with h|h
 ·exact h
 ·have:=(a.own g h).1;omega
theorem Inv.HQ(a:Inv γ h0 io w0 s f w){b g:Nat}{T:TypeId}{q:M Value}{D:M C}(hB:kQ w g T q)(G:γ.ω g=.free\/γ.ω g=.fP)(L:w0.heap.size<=g\/g∈io)(K:γ.h g=0)(N:fF γ w D q) :
  ∃i,Inv i h0 io w0 (s.jQ b (C.jD b D)) f w/\i.β b=g/\(∀x,x≠b->i.β x=γ.β x)/\i.h=γ.h/\i.sl=γ.sl/\∀y,y≠g->i.ω y=γ.ω y:=by
 refine⟨{γ with β:=λx=>if x=b then g else γ.β x,ω:=λx=>if x=g then .box b else γ.ω x },?_,by simp,λx H=>by simp[H],rfl,rfl,λy j=>by simp[j]⟩;have mv:∀(c:C) {v:Value},CR γ w c v->CR {γ with β:=λx=>if x=b then g else γ.β x,ω:=λx=>if x=g then .box b else γ.ω x } w (C.kill b c) v:=λc v h=>
  by refine CR.move (γ:=γ) b ?_ ?_ ?_ ?_ c h<;>intros<;>first|exact au _|rfl|simp_all
 have l:∀(c:M C) {v:M Value},fF γ w c v->fF {γ with β:=λx=>if x=b then g else γ.β x,ω:=λx=>if x=g then .box b else γ.ω x } w (C.jD b c) v:=λc v h=>
  by refine fF.move (γ:=γ) b ?_ ?_ ?_ ?_ c h<;>intros<;>first|exact au _|rfl|simp_all
 exact {
  sl:=λd c k=>by
   simp[St.jQ,St.gk,St.kill,xG]at k;obtain⟨o,n,rfl⟩:=k;exact mv o (a.sl d o n)
  bx:=λd c k=>by
   simp[St.jQ,St.gk,St.kill,look,fg,xF]at k;by_cases hd:b=d
   ·subst hd;simp[if_true,aa]at k;subst k;exact⟨T,q,by simpa using hB,l D N,by simp⟩
   ·simp[if_neg hd]at k;obtain⟨o,n,rfl⟩:=k;obtain⟨Q,P,B,p,A⟩:=a.bx d o n;have t:γ.β d≠g:=λe=>by rcases G with h|h<;>rw[e,h]at A<;>cases A
    exact⟨Q,P,by simpa [n9 hd] using B,l o p,by simp[n9 hd,t,A]⟩
  rw:=λr x k=>by
   obtain⟨F,n,B,p⟩:=a.rw r x k;refine⟨F,n,B,λy j=>?_⟩;have t:y≠g:=λe=>by have:=p y j;rcases G with h|h<;>rw[e,h]at this<;>cases this
   simp[t,p y j]
  own:=λy j=>by
   by_cases m:y=g
   ·subst m;exact⟨hB.lt,L⟩
   ·simp[if_neg m]at j;exact a.own y j
  nE:=λy x j=>by
   by_cases m:y=g
   ·subst m;exact K
   ·simp[if_neg m]at j;exact a.nE y x j
  gy:=a.gy,os:=a.os,tape:=a.tape,output:=a.output,size:=a.size,frame:=a.frame,cell:=a.cell,mono:=a.mono,hold:=a.hold,gW:=a.gW }
theorem Inv.ux(a:Inv γ h0 io w0 s f w){r:Nat}{x:Row}{v:Value}{F:M Nat}(H:oW γ.h w x v F)(D:F.Nodup)(K:∀g∈F,(γ.ω g=.free\/γ.ω g=.fP\/γ.ω g=.row r)/\g < w.heap.size/\(w0.heap.size<=g\/g∈io)) :
  ∃b,Inv b h0 io w0 (s.newRow r x) f w/\b.sl r=v/\b.β=γ.β/\b.h=γ.h/\(∀g,g∉F->b.ω g=γ.ω g)/\∀q,q≠r->b.sl q=γ.sl q:=by
 refine⟨{γ with sl:=λq=>if q=r then v else γ.sl q,ω:=λy=>if y∈F then .row r else γ.ω y },?_,by simp,rfl,rfl,λg l=>by simp[l],λq G=>by simp[G]⟩;have mv:∀(c:C) {j:Value},CR γ w c j->CR {γ with sl:=λq=>if q=r then v else γ.sl q,ω:=λy=>if y∈F then .row r else γ.ω y } w (C.kill r c) j:=λc j h=>
  by refine CR.move (γ:=γ) r ?_ ?_ ?_ ?_ c h<;>intros<;>first|exact au _|rfl|simp_all
 have p:∀(c:M C) {j:M Value},fF γ w c j->fF {γ with sl:=λq=>if q=r then v else γ.sl q,ω:=λy=>if y∈F then .row r else γ.ω y } w (C.jD r c) j:=λc j h=>
  by refine fF.move (γ:=γ) r ?_ ?_ ?_ ?_ c h<;>intros<;>first|exact au _|rfl|simp_all
 exact {
  sl:=λd c i=>by
   simp[St.newRow,St.setRow,St.kill,xG]at i;obtain⟨n,m,rfl⟩:=i;exact mv n (a.sl d n m)
  bx:=λd c i=>by
   simp[St.newRow,St.setRow,St.kill,xF]at i;obtain⟨n,m,rfl⟩:=i;obtain⟨P,N,B,A,L⟩:=a.bx d n m;refine⟨P,N,B,p n A,?_⟩;have t:γ.β d∉F:=λe=>by
    grind
   simp[t,L]
  rw:=λq y i=>by
   simp[St.newRow,St.setRow,St.kill,look,fg]at i;by_cases hd:r=q
   ·subst hd;simp[if_true,aa]at i;subst i;exact⟨F,by simpa using H,D,λg l=>by simp[l]⟩
   ·simp[if_neg hd]at i;obtain⟨Q,m,B,A⟩:=a.rw q y i;refine⟨Q,by simpa [n9 hd] using m,B,λg l=>?_⟩;have t:g∉F:=λe=>by
     grind
    simp[t,A g l]
  own:=λy k=>by
   by_cases o:y∈F
   ·exact (K y o).2
   ·simp[if_neg o]at k;exact a.own y k
  nE:=λy x k=>by
   by_cases o:y∈F
   ·simp_all
   ·simp[if_neg o]at k;exact a.nE y x k
  gy:=a.gy,os:=a.os,tape:=a.tape,output:=a.output,size:=a.size,frame:=a.frame,cell:=a.cell,mono:=a.mono,hold:=a.hold,gW:=a.gW }
theorem Inv.setRow(a:Inv γ h0 io w0 s f w){r:Nat}{x:Row}{F:M Nat}(A:oW γ.h w x (γ.sl r) F)(v:F.Nodup)(B:∀g∈F,(γ.ω g=.free\/γ.ω g=.fP\/γ.ω g=.row r)/\g < w.heap.size/\(w0.heap.size<=g\/g∈io)) :
  ∃b,Inv b h0 io w0 (s.setRow r x) f w/\b.sl=γ.sl/\b.β=γ.β/\b.h=γ.h/\∀g,b.ω g=γ.ω g\/b.ω g=.row r:=by
 refine⟨{γ with ω:=λy=>if y∈F then .row r else γ.ω y },?_,rfl,rfl,rfl,λg=>by dsimp only;split<;>simp⟩;have mv:∀(c:C) {j:Value},CR γ w c j->CR {γ with ω:=λy=>if y∈F then .row r else γ.ω y } w c j:=λc j h=>
  by refine CR.mono (γ:=γ) ?_ ?_ ?_ ?_ c h<;>intros<;>first|exact au _|rfl
 have m:∀(c:M C) {j:M Value},fF γ w c j->fF {γ with ω:=λy=>if y∈F then .row r else γ.ω y } w c j:=λc j h=>
  by refine fF.mono (γ:=γ) ?_ ?_ ?_ ?_ c h<;>intros<;>first|exact au _|rfl
 exact {
  sl:=λd c i=>mv c (a.sl d c i)
  bx:=λd c i=>by
   obtain⟨K,H,t,p,D⟩:=a.bx d c i;refine⟨K,H,t,m c p,?_⟩;have n:γ.β d∉F:=λe=>by
    grind
   simp[n,D]
  rw:=λq y i=>by
   simp[St.setRow,look,fg]at i;by_cases hd:r=q
   ·subst hd;simp[if_true,aa]at i;subst i;exact⟨F,A,v,λg o=>by simp[o]⟩
   ·simp[if_neg hd]at i;obtain⟨L,G,t,p⟩:=a.rw q y i;refine⟨L,G,t,λg o=>?_⟩;have n:g∉F:=λe=>by
     grind
    simp[n,p g o]
  own:=λy k=>by
   by_cases l:y∈F
   ·exact (B y l).2
   ·simp[if_neg l]at k;exact a.own y k
  nE:=λy x k=>by
   by_cases l:y∈F
   ·simp_all
   ·simp[if_neg l]at k;exact a.nE y x k
  gy:=a.gy,os:=a.os,tape:=a.tape,output:=a.output,size:=a.size,frame:=a.frame,cell:=a.cell,mono:=a.mono,hold:=a.hold,gW:=a.gW }
theorem Inv.gk(g:Inv γ h0 io w0 s f w){b:Nat}{T:TypeId}{e:M Value}{h:M C}(hB:kQ w (γ.β b) T e)(i:γ.ω (γ.β b)=.box b)(j:fF γ w h e):Inv γ h0 io w0 (s.gk b h) f w:=
 {g with
  bx:=λd c a=>by
   simp[St.gk,look,fg]at a;by_cases hd:b=d
   ·subst hd;simp[if_true,aa]at a;subst a;exact⟨T,e,hB,j,i⟩
   ·simp[if_neg hd]at a;exact g.bx d c a }
theorem Inv.cQ(a:Inv γ h0 io w0 s f w)(r:Nat):Inv γ h0 io w0 (s.cQ r) f w:=
 a.sub (λ_ _ h=>h) (λ_ _ h=>h) (λd c h=>by
  simp[St.cQ,fg]at h
  simp_all)
theorem Inv.take(C:Inv γ h0 io w0 s f w){r:Nat}{x:Row}(hl:look s.rw r=Z x) :
  ∃m G,Inv m h0 io w0 (s.cQ r) f w/\m.β=γ.β/\m.sl=γ.sl/\(∀g,γ.h g<=m.h g)/\Rp w (.list x.k x.fl x.es) (γ.sl r) G/\
   ((x.deep && !x.fz)=J->eM m.h G)/\((x.deep && !x.fz)=I->(G.map eK).Nodup/\∀p∈G,m.ω p.1=.fP/\m.h p.1=0/\oX w p.1)/\
   (∀p∈G,γ.ω p.1=.row r\/x.deep=J)/\(∀g,γ.ω g≠.row r->m.ω g=γ.ω g/\m.h g=γ.h g)/\∀g,m.ω g=γ.ω g\/m.ω g=.fP\/m.ω g=.free:=by
 obtain⟨F,hR,mb,B⟩:=C.rw r x hl;obtain⟨A,n,c,U,T,S,R,Q,P,N,q8⟩:=hR;have L:=C.cQ r;have Ei:∀g,γ.ω g=.row r->(∀b cs,look (s.cQ r).bx b=Z cs->γ.ω g≠.box b)/\∀q y,look (s.cQ r).rw q=Z y->γ.ω g≠.row q:=by
  intro g K;refine⟨λb cs _=>by rw[K];simp,λq y X=>?_⟩;rw[K];simp only[St.cQ,fg]at X
  split at X
  ·cases X
  ·rename_i kU;intro e;cases e;exact kU rfl
 rcases q8 with ⟨rfl,rfl,rfl⟩|⟨g,o,xs,G,rfl,a2,a3,a4,a5,a6,a7,a8,a9,tM⟩
 ·refine⟨γ,[],L,rfl,rfl,λ_=>au _,?_,λ_ _ h=>by simp at h,λ_=>by simp,λ_ h=>by simp at h,λ_ _=>⟨rfl,rfl⟩,λ_=>.inl rfl⟩;simp only[Rp];exact⟨O,n,0,U,T,S,R,N,Q,P,.inl ⟨by omega,trivial⟩⟩
 ·by_cases hn:n=0
  ·refine⟨γ,[],L,rfl,rfl,λ_=>au _,?_,λ_ _ h=>by simp at h,λ_=>by simp,λ_ h=>by simp at h,λ_ _=>⟨rfl,rfl⟩,λ_=>.inl rfl⟩;simp only[Rp];exact⟨_,n,c,U,T,S,R,N,Q,P,.inl ⟨hn,trivial⟩⟩
  ·have BB:Rp w (.list x.k x.fl x.es) (γ.sl r) ((g,o+n * x.k)::G):=by
    simp only[Rp];exact⟨_,n,c,U,T,S,R,N,Q,P,.inr ⟨by omega,g,o,xs,G,rfl,rfl,a4,a5⟩⟩
   have H:γ.ω g=.row r:=by
    cases hd:x.deep with
    |true=>exact B g (by rw[(a9 hd).1];simp)
    |false=>exact B g (by rw[(tM hd).1];simp)
   by_cases t:(x.deep && !x.fz)=I
   ·simp only[af,bY]at t;obtain⟨Y,hz⟩:=a9 t.1;have W:=L.settle (h':=γ.h) (ω':=λy=>if γ.ω y=.row r then .fP else γ.ω y) (λ_=>au _) (λg K=>absurd rfl K)
     (λy=>by
      by_cases i:γ.ω y=.row r
      ·exact .inr ⟨.inr (by simp[i]),by rw[i];simp,Ei y i⟩
      ·exact .inl (by simp[i]))
     (λy b i=>by
      by_cases v:γ.ω y=.row r
      ·simp[v]at i
      ·simp only[if_neg v]at i;exact C.nE y b i)
    refine⟨_,(g,o+n * x.k)::G,W,rfl,rfl,λ_=>au _,BB,λh=>by simp[t.1,t.2]at h,λ_=>⟨by rw[aW,<- Y];exact mb,λp j=>?_⟩,λp j=>.inl ?_,λy i=>by simp[i],λy=>by dsimp only;split<;>simp⟩
    ·rcases aP.1 j with rfl|j
     ·exact⟨by simp[H],a7 t.2,a3⟩
     ·have hm:γ.ω p.1=.row r:=B _ (by rw[Y];simp;exact .inr ⟨p.2,j⟩);exact⟨by simp[hm],hz p j⟩
    ·rcases aP.1 j with rfl|j
     ·exact H
     ·exact B _ (by rw[Y];simp;exact .inr ⟨p.2,j⟩)
   ·
    have D:∀p∈G,x.deep=I->γ.ω p.1=.row r:=λp j hd=>B _ (by rw[(a9 hd).1];simp;exact .inr ⟨p.2,j⟩);have gy:∃h':Nat->Nat,(∀y,γ.h y<=h' y)/\eM h' ((g,o+n * x.k)::G)/\∀y,γ.ω y≠.row r->h' y=γ.h y:=by
     refine⟨λy=>if γ.ω y=.row r then γ.h y+((((g,o+n * x.k)::G).map rq).foldl max 0) else γ.h y,λy=>by dsimp only;split<;>omega,?_,λy i=>by simp[i]⟩;have mx:∀(l:M Nat) (a b:Nat),(b=a\/b∈l)->b<=l.foldl max a:=by
      intro l
      induction l with
      |nil=>intro a b j;simp at j;simp[j]
      |cons d l ih=>
       intro a b j;simp only[wm];have h1:=ih (max a d) (max a d) (.inl rfl);rcases j with rfl|j
       ·omega
       ·rcases aP.1 j with rfl|j
        ·omega
        ·exact ih _ _ (.inr j)
     intro p j;have hle:=mx (((g,o+n * x.k)::G).map rq) 0 p.2 (.inr (ey j));by_cases i:γ.ω p.1=.row r
     ·simp only[i,if_true];omega
     ·simp only[if_neg i];rcases aP.1 j with rfl|j
      ·exact absurd H i
      ·cases hd:x.deep with
       |true=>exact absurd (D p j hd) i
       |false=>exact (tM hd).2 p j
    obtain⟨h',m1,m2,V⟩:=gy;have W:=L.settle (h':=h') (ω':=λy=>if γ.ω y=.row r then .free else γ.ω y) m1
     (λy i=>by
      have hr:γ.ω y=.row r:=by
       rcases jK (γ.ω y=.row r) with h|h
       ·exact h
       ·exact absurd (V y h) i
      have ho:=C.own y (by rw[hr];simp);exact⟨ho.1,ho.2,Ei y hr⟩)
     (λy=>by
      by_cases i:γ.ω y=.row r
      ·exact .inr ⟨.inl (by simp[i]),by rw[i];simp,Ei y i⟩
      ·exact .inl (by simp[i]))
     (λy b i=>by
      by_cases v:γ.ω y=.row r
      ·simp[v]at i
      ·simp only[if_neg v]at i;rw[V y v];exact C.nE y b i)
    refine⟨_,_,W,rfl,rfl,m1,BB,λ_=>m2,λh=>absurd h t,λp j=>?_,λy i=>by simp[i,V y i],λy=>by dsimp only;split<;>simp⟩;cases hd:x.deep with
    |false=>exact .inr rfl
    |true=>
     rcases aP.1 j with rfl|j
     ·exact .inl H
     ·exact .inl (D p j hd)
end
theorem Er{v:Value}(h:one v=I):v.oneCell'=I:=by
 cases v<;>simp_all[one,Value.oneCell']
theorem Bk.next'{a w b:World}(h:Bk a.heap.size a w)(c:Bk w.heap.size w b):Bk a.heap.size a b:=Kb h c h.size
section
variable {P:Program} {w:World}
theorem Jt{t ty e:TypeId}{i:TypeInfo}{a:Value}{k by_:Nat}(s:P.underlying t=Z (.slice e))(B:P.info? e=Z i)(hz:i.zero=Z a)(W:i.size=k)(V:i.bytes=by_)(JY:a.cells.size=k)(hk:0 < k)
  {v:Value} {n:Nat} {xs:M Value} (R:xs.length=n * k) (hv:(v=.slice O 0 0/\n=0)\/∃g d T f,v=.slice (Z ⟨g,0,O⟩) n d/\kQ w g T f/\n<=d/\d<=maxLen/\f.length=d * k/\f.take (n * k)=xs)
  {u:Value} {m:Nat} {news:M Value} (G:news.length=m * k) (S:(m=0/\∃A c,u=.slice A 0 c)\/∃b o c,u=.slice (Z ⟨b,o,O⟩) m c/\jo w b o news) (h1:∀y∈news,one y=I) (H:n+m<=maxLen) (X:(n+m) * by_<=room) :
  ∃K D,(Builtin.append_ #[t,t] ty #[v,u]).run P w=.ok K D/\
   ((m=0/\K=v/\D=w)\/
    (∃g d T f,v=.slice (Z ⟨g,0,O⟩) n d/\kQ w g T f/\K=.slice (Z ⟨g,0,O⟩) (n+m) d/\n+m<=d/\d<=maxLen/\f.length=d * k/\f.take (n * k)=xs/\D=gM w g (.cells (cF f (n * k) news).toArray T (0,0)))\/
    (∃d C,K=.slice (Z ⟨w.heap.size,0,O⟩) (n+m) d/\n+m<=d/\d<=maxLen/\D.heap.size=w.heap.size+1/\Bk w.heap.size w D/\kQ D w.heap.size e C/\C.length=d * k/\C.take ((n+m) * k)=xs++news)):=by
 subst W;subst V;have aln:n+m<=9223372036854775807:=by simp only[maxLen]at H;omega
 have nJ:(n+m) * i.bytes<=140737488355328:=X;have r:(xs++news).length=(n+m) * i.size:=by rw[aR,R,G,lj]
 by_cases hm:m=0
 ·subst hm;have hn:news=[]:=ck (by simpa using G);subst hn;refine⟨v,w,?_,.inl ⟨rfl,rfl,rfl⟩⟩;rcases hv with ⟨rfl,rfl⟩|⟨g,d,T,f,rfl,hB,Fl,q,N,Y⟩
  ·rcases S with ⟨_,A,c,rfl⟩|⟨b,o,c,rfl,_⟩
   ·cases A<;>simp[Builtin.append_,run_underlying s,sizeOf,typeInfo,B,Builtin.lenOf,Builtin.firstCells,loadCells,loadCellsFrom]
   ·simp[Builtin.append_,run_underlying s,sizeOf,typeInfo,B,Builtin.lenOf,Builtin.firstCells,loadCells,loadCellsFrom]
  ·rcases S with ⟨_,A,c,rfl⟩|⟨b,o,c,rfl,_⟩
   ·cases A<;>simp[Builtin.append_,run_underlying s,sizeOf,typeInfo,B,Builtin.lenOf,Builtin.firstCells,loadCells,loadCellsFrom,Fl,storeCells]
   ·simp[Builtin.append_,run_underlying s,sizeOf,typeInfo,B,Builtin.lenOf,Builtin.firstCells,loadCells,loadCellsFrom,Fl,storeCells]
 ·rcases S with ⟨h,_⟩|⟨b,o,c,rfl,jd⟩
  ·omega
  ·have L:∀j y,news[j]?=Z y->w.cell? ((⟨b,o,O⟩:Addr).add j)=Z y:=by
    intro j y F;rw[pz];exact jd j y F
   have p:∀(l:Nat),l < n+m->
     (∃d C,(Value.slice (Z ⟨w.heap.size,0,O⟩) (n+m) (grownCap w (n+m) l e))=.slice (Z ⟨w.heap.size,0,O⟩) (n+m) d/\n+m<=d/\d<=maxLen/\(w.drew.alloc (.cells (xs.toArray++news.toArray++Builtin.zeroCells a.cells (grownCap w (n+m) l e - (n+m))) e)).heap.size=w.heap.size+1/\
      Bk w.heap.size w (w.drew.alloc (.cells (xs.toArray++news.toArray++Builtin.zeroCells a.cells (grownCap w (n+m) l e - (n+m))) e))/\kQ (w.drew.alloc (.cells (xs.toArray++news.toArray++Builtin.zeroCells a.cells (grownCap w (n+m) l e - (n+m))) e)) w.heap.size e C/\C.length=d * i.size/\C.take ((n+m) * i.size)=xs++news):=by
    intro l ho;have yH:=grownCap_ge w (n+m) l e;have q:grownCap w (n+m) l e<=maxLen:=grownCap_le_maxLen w (n+m) l e H;refine⟨_,(xs++news)++(Builtin.zeroCells a.cells (grownCap w (n+m) l e - (n+m))).toList,rfl,yH,q,by rw[size_alloc];rfl,?_,?_,?_,?_⟩
    ·exact (Kc w).drew.next' (vC w.drew _ _)
    ·have e1:xs.toArray++news.toArray++Builtin.zeroCells a.cells (grownCap w (n+m) l e - (n+m))=((xs++news)++(Builtin.zeroCells a.cells (grownCap w (n+m) l e - (n+m))).toList).toArray:=by
      apply Array.ext'
      simp
     rw[e1];exact kQ.new w.drew e _
    ·rw[aR,r,eW,size_zeroCells,JY,<- lj]
     congr 1
     omega
    ·rw[<- r];exact nX
   rcases hv with ⟨rfl,rfl⟩|⟨g,d,T,f,rfl,hB,Fl,q,N,Y⟩
   ·have Q:xs=[]:=ck (by simpa using R);subst Q;have U:=run_append_nil (P:=P) w t ty e i a s B hz ⟨b,o,O⟩ m c news G L (by omega) (by omega) (by have hb:=nJ;simp only[bD]at hb;omega);have hg:=p 0 (by omega);simp only[bD,ay,Array.empty_append]at hg ⊢;exact⟨_,_,U,.inr (.inr hg)⟩
   ·by_cases YB:n+m<=d
    ·have Au:n * i.size+news.length<=f.length:=by rw[G,N,<- lj];exact ee _ YB
     have hf:=run_firstCells_some (P:=P) w i.size m ⟨b,o,O⟩ m c news G L;have qf:=nu (P:=P) (o:=n * i.size) news 0 w f hB (by simpa using Au) h1;simp only[eu]at qf;refine⟨_,_,?_,.inr (.inl ⟨g,d,T,f,rfl,hB,rfl,YB,q,N,Y,rfl⟩)⟩;simp[Builtin.append_,run_underlying s,sizeOf,typeInfo,B,Builtin.lenOf,YB,hf,Addr.add_lit,qf]
    ·have x:∀j y,xs[j]?=Z y->w.cell? ((⟨g,0,O⟩:Addr).add j)=Z y:=by
      intro j y F;rw[pz,bD,hB.cell];rw[<- Y,da]at F
      split at F
      ·exact F
      ·cases F
     have U:=run_append_grow (P:=P) w t ty e i a s B hz ⟨g,0,O⟩ n d xs R x ⟨b,o,O⟩ m c news G L (by omega) (by omega) (growslice_fits (by omega) nJ);exact⟨_,_,U,.inr (.inr (p d (by omega)))⟩
end
end
section
open Go.RowKit
def yd(a:Gh)(w:World)(g:Nat):Prop:=a.ω g=.fP/\a.h g=0/\oX w g
section
variable {h0:Nat->Nat} {io:M Nat} {w0:World} {f:Fm} {w:World}
theorem uN:∀{i:M C} {s j:St} {g:M D} {l:Bool},Fk s i=Z (g,l,j)->i.all C.cell=I/\g.length=i.length
 |[],s,j,g,l,h=>by simp[Fk]at h;simp[<- h.1]
 |c::i,s,j,g,l,h=>by
  unfold Fk at h;cases c with
  |d x=>
   simp only[ak]at h;obtain⟨⟨n,e,m⟩,b,a⟩:=h;simp[aA]at a;have:=uN b;simp[C.cell,this.1,<- a.1,this.2]
  |nil k o=>
   simp only[ak]at h;obtain⟨⟨n,e,m⟩,b,a⟩:=h;simp[aA]at a;have:=uN b;simp[C.cell,this.1,<- a.1,this.2]
  |ref r=>
   simp only at h
   split at h
   ·simp only[ak]at h;obtain⟨⟨n,e,m⟩,b,a⟩:=h;simp[aA]at a;have:=uN b;simp[C.cell,this.1,<- a.1,this.2]
   ·cases h
  |_=>simp at h
structure Emb (γ:Gh) (w:World) (dp:Bool) (G:Fp) (γ':Gh):Prop where
 β:γ'.β=γ.β
 sl:γ'.sl=γ.sl
 h:∀g,γ.h g<=γ'.h g
 some_:∀be∈G,be.2<=γ'.h be.1\/yd γ' w be.1
 deep:dp=true->(G.map eK).Nodup/\∀be∈G,yd γ' w be.1/\γ.ω be.1≠.fP
 fP:∀g,γ.ω g=.fP->γ'.ω g=.fP/\γ'.h g=γ.h g
 own:∀g,γ'.ω g=γ.ω g\/γ'.ω g=.fP\/γ'.ω g=.free
theorem yw:∀(q:M C) {t:Gh} {s S:St} {R:M Value} {T:M D} {U:Bool},Inv t h0 io w0 s f w->fF t w q R->Fk s q=Z (T,U,S)->
  ∃γ' G,Inv γ' h0 io w0 S f w/\fV w T R G/\Emb t w U G γ'
 |[],t,s,S,R,T,U,L,N,l=>by
  simp[Fk]at l;obtain⟨rfl,rfl,rfl⟩:=l;simp only[fF]at N;subst N;exact⟨t,[],L,by simp[fV],⟨rfl,rfl,λ_=>au _,λ_ h=>by simp at h,λ_=>by simp,λ_ h=>⟨h,rfl⟩,λ_=>.inl rfl⟩⟩
 |c::q,t,s,S,R,T,U,L,N,l=>by
  simp only[fF]at N;obtain⟨v,fK,rfl,y,V⟩:=N;unfold Fk at l;cases c with
  |d x=>
   simp only[ak]at l;obtain⟨⟨mY,Q,s1⟩,P,p⟩:=l;simp only[aA]at p;obtain⟨rfl,rfl,rfl⟩:=p;obtain⟨γ',G,K,B,m⟩:=yw q L V P;simp only[CR]at y;obtain⟨F,hr,hs⟩:=y;refine⟨γ',F++G,K,by simp only[fV];exact⟨v,fK,F,G,rfl,rfl,hr,B⟩,⟨m.β,m.sl,m.h,λj i=>?_,λhd=>?_,m.fP,m.own⟩⟩
   ·rcases aS.1 i with i|i
    ·exact .inl (aL (hs j i) (m.h _))
    ·exact m.some_ j i
   ·simp only[af]at hd;have hF:F=[]:=by
     have:fV w [x] [v] F:=by simp only[fV];exact⟨v,[],F,[],rfl,by simp,hr,rfl,rfl⟩
     exact this.plain (by simp[hd.1])
    subst hF;exact m.deep hd.2
  |nil k fl=>
   simp only[ak]at l;obtain⟨⟨mY,Q,s1⟩,P,p⟩:=l;simp only[aA]at p;obtain⟨rfl,rfl,rfl⟩:=p;obtain⟨γ',G,K,B,m⟩:=yw q L V P;simp only[CR]at y;obtain⟨rfl,hk⟩:=y;refine⟨γ',G,K,?_,m⟩;simp only[fV];refine⟨_,fK,[],G,rfl,rfl,?_,B⟩;simp only[Rp];exact⟨O,0,0,rfl,rfl,au _,by simp[maxLen],λ_=>km,hk,λ_ h=>by simp at h,.inl ⟨rfl,trivial⟩⟩
  |ref r=>
   simp only at l
   split at l
   ·rename_i x hx;simp only[ak]at l;obtain⟨⟨mY,Q,s1⟩,P,p⟩:=l;simp only[aA]at p;obtain⟨rfl,rfl,rfl⟩:=p;obtain⟨nC,G1,K,b1,A,m1,B,Y,d1,o1,k1,w1⟩:=L.take hx;obtain⟨lZ,G2,i2,r2,o⟩:=yw q K (V.mono (γ':=nC) m1 (λ_ _ _=>rfl) b1 A q) P;simp only[CR]at y;have up:∀j∈G1,(x.deep && !x.fz)=I->yd lZ w j.1:=λj i hd=>by
     obtain⟨_,hl⟩:=d1 hd;obtain⟨l1,H,l3⟩:=hl j i;obtain⟨X,W⟩:=o.fP _ l1;exact⟨X,W.trans H,l3⟩
    refine⟨lZ,G1++G2,i2,by simp only[fV];exact⟨v,fK,G1,G2,rfl,rfl,by rw[y.1];exact B,r2⟩,⟨o.β.trans b1,o.sl.trans A,λg=>aL (m1 g) (o.h g),λj i=>?_,λhd=>?_,λg hg=>?_,λg=>?_⟩⟩
    ·rcases aS.1 i with i|i
     ·cases hd:(x.deep && !x.fz) with
      |true=>exact .inr (up j i hd)
      |false=>exact .inl (aL (Y hd j i) (o.h _))
     ·exact o.some_ j i
    ·rw[af]at hd;obtain⟨n,hd2⟩:=hd;obtain⟨n1,l1⟩:=d1 n;obtain⟨n2,H⟩:=o.deep hd2;have Dm:x.deep=I:=by simp at n;exact n.1
     refine⟨?_,λj i=>?_⟩
     ·rw[bR,bG];refine⟨n1,n2,?_⟩;intro a ha b i e;subst e;obtain⟨YV,BZ,rfl⟩:=cm.1 ha;obtain⟨be2,Ar,e2'⟩:=cm.1 i;exact (H be2 Ar).2 (by rw[e2'];exact (l1 YV BZ).1)
     ·rcases aS.1 i with i|i
      ·refine⟨up j i n,?_⟩;rcases o1 j i with h|h
       ·rw[h];simp
       ·rw[Dm]at h;cases h
      ·refine⟨(H j i).1,λh=>(H j i).2 ?_⟩;rw[(k1 j.1 (by rw[h];simp)).1];exact h
    ·have h3:=k1 g (by rw[hg];simp);obtain⟨X,W⟩:=o.fP g (by rw[h3.1];exact hg);exact⟨X,W.trans h3.2⟩
    ·rcases o.own g with h|h
     ·rw[h];exact w1 g
     ·exact .inr h
   ·cases l
  |_=>simp at l
theorem Inv.aa0{d:Gh}{s:St}(n:Inv d h0 io w0 s f w)(G:Fp)(t:∀k∈G,k.2<=d.h k.1\/yd d w k.1) :
  ∃e,Inv e h0 io w0 s f w/\e.β=d.β/\e.sl=d.sl/\(∀g,d.h g<=e.h g)/\eM e.h G/\(∀g,d.ω g=.free->e.ω g=.free)/\∀g,d.ω g≠.fP->e.h g=d.h g:=by
 have mx:∀(l:M Nat) (a b:Nat),(b=a\/b∈l)->b<=l.foldl max a:=by
  intro l
  induction l with
  |nil=>intro a b i;simp at i;simp[i]
  |cons c l p=>
   intro a b i;simp;have x:=p (max a c) (max a c) (.inl rfl);rcases i with rfl|i
   ·omega
   ·rcases aP.1 i with rfl|i
    ·omega
    ·exact p _ _ (.inr i)
 have q:=n.settle (h':=λy=>if d.ω y=.fP then d.h y+(G.map rq).foldl max 0 else d.h y) (ω':=λy=>if d.ω y=.fP then .free else d.ω y) (λy=>by split<;>omega)
  (λy m=>by
   have j:d.ω y=.fP:=by
    simp_all
   have v:=n.own y (by rw[j];simp);simp_all)
  (λy=>by
   by_cases j:d.ω y=.fP
   ·simp_all
   simp_all)
  (λy b m=>by
   by_cases j:d.ω y=.fP
   ·simp[j]at m
   ·simp[if_neg j]at m ⊢;exact n.nE y b m)
 refine⟨_,q,rfl,rfl,λy=>by dsimp only;split<;>omega,λk i=>?_,λg o=>by simp[o],λg o=>by simp[o]⟩;have r:=mx (G.map rq) 0 k.2 (.inr (ey i));dsimp only;split
 ·omega
 ·rename_i j;rcases t k i with h|h
  ·exact h
  ·exact absurd h.1 j
theorem KQ{k:Nat}{X:Bool}:∀(p:M C) {o:Gh} {s y:St} {q:M Value} {es:M (M D)} {A:Bool},Inv o h0 io w0 s f w->fF o w p q->BY k X s p=Z (es,A,y)->
  ∃γ' G,Inv γ' h0 io w0 y f w/\fQ w es (q.flatMap λv=>v.cells.toList) G/\Emb o w A G γ'/\es.length=p.length/\(∀e∈es,e.length=k)/\(X=I->flat es)/\∀v∈q,v.cells.size=k
 |[],o,s,y,q,es,A,N,x,i=>by
  simp[BY]at i;obtain⟨rfl,rfl,rfl⟩:=i;simp only[fF]at x;subst x;exact⟨o,[],N,by simp[fQ],⟨rfl,rfl,λ_=>au _,λ_ h=>by simp at h,λ_=>by simp,λ_ h=>⟨h,rfl⟩,λ_=>.inl rfl⟩,rfl,λ_ h=>by simp at h,λ_=>km,λ_ h=>by simp at h⟩
 |c::p,o,s,y,q,es,A,N,x,i=>by
  simp only[fF]at x;obtain⟨v,fK,rfl,hv,vM⟩:=x;unfold BY at i
  split at i
  ·rename_i ds dp1 s1 W
   split at i
   ·rename_i L;simp only[ak]at i;obtain⟨⟨ju,dp2,s2⟩,h2,V⟩:=i;simp only[aA]at V;obtain⟨rfl,rfl,rfl⟩:=V;obtain⟨wT,r⟩:=uN W;obtain⟨Y,_,_⟩:=hv.cells wT;obtain⟨S,G1,i1,r1,l⟩:=yw _ N Y W;obtain⟨T,G2,i2,r2,m,l2,k2,f2,z2⟩:=KQ p i1 (vM.mono (γ':=S) l.h (λ_ _ _=>rfl) l.β l.sl p) h2;have mR:v.cells.size=k:=by rw[<- eW,Y.length,<- r];exact L.1
    have up:∀g,yd S w g->yd T w g:=λg t=>by
     obtain⟨F,B⟩:=m.fP g t.1;exact⟨F,B.trans t.2.1,t.2.2⟩
    refine⟨T,G1++G2,i2,?_,⟨m.β.trans l.β,m.sl.trans l.sl,λg=>aL (l.h g) (m.h g),λn j=>?_,λhd=>?_,λg t=>?_,λg=>?_⟩,by simp[l2],?_,?_,?_⟩
    ·simp only[fQ,iL];exact⟨_,_,G1,G2,rfl,rfl,r1,r2⟩
    ·rcases aS.1 j with j|j
     ·rcases l.some_ n j with h|h
      ·exact .inl (aL h (m.h _))
      ·exact .inr (up _ h)
     ·exact m.some_ n j
    ·rw[af]at hd;obtain⟨n1,H⟩:=l.deep hd.1;obtain⟨n2,R⟩:=m.deep hd.2;refine⟨?_,λn j=>?_⟩
     ·rw[bR,bG];refine⟨n1,n2,?_⟩;intro a ha b j e;subst e;obtain⟨YV,BZ,rfl⟩:=cm.1 ha;obtain⟨Q,Ar,P⟩:=cm.1 j;exact (R Q Ar).2 (by rw[P];exact (H YV BZ).1.1)
     ·rcases aS.1 j with j|j
      ·exact⟨up _ (H n j).1,(H n j).2⟩
      ·refine⟨(R n j).1,λh=>(R n j).2 ?_⟩;exact (l.fP _ h).1
    ·obtain⟨F,B⟩:=l.fP g t;obtain⟨u3,u4⟩:=m.fP g F;exact⟨u3,u4.trans B⟩
    ·rcases m.own g with h|h
     ·rw[h];exact l.own g
     ·exact .inr h
    ·intro e i;rcases aP.1 i with rfl|i
     ·exact L.1
     ·exact k2 e i
    ·intro U e i;rcases aP.1 i with rfl|i
     ·have:=L.2 U
      simpa [cD] using this
     ·exact f2 U e i
    ·intro d K;rcases aP.1 K with rfl|K
     ·exact mR
     ·exact z2 d K
   ·cases i
  ·cases i
end
end
section
open Go.RowKit
theorem BD{b:Nat}:∀{c:M C},c.all C.const=I->C.jD b c=c
 |[],_=>by simp[C.jD]
 |a::c,h=>by
  simp only[bJ,af]at h;have d:=BD (b:=b) h.2;have e:=h.1;cases a<;>simp_all[C.jD,C.kill,C.const]
def ain:Value->D->Bool
 | .int k n,.int d c=>k ==d && n ==c && k.wrap n ==n
 | .bool b,.bool e=>b ==e
 | .string s,.str a=>s.data.toList ==a.data.toList && gV s.size maxLen
 | .slice O 0 0,.list k _ []=>gf 0 k
 |_,_=>J
def Eo:M Value->M D->Bool
 |[],[]=>I
 |v::a,c::cs=>ain v c && Eo a cs
 |_,_=>J
theorem Hp{w:World}:∀(a:M Value) (c:M D),Eo a c=I->fV w c a []
 |[],[],_=>by simp[fV]
 |[],_::_,h=>by simp[Eo]at h
 |_::_,[],h=>by simp[Eo]at h
 |v::a,d::c,h=>by
  simp only[Eo,af]at h;simp only[fV];refine⟨v,a,[],[],rfl,rfl,?_,Hp a c h.2⟩;have ok:=h.1;unfold ain at ok
  split at ok
  ·simp only[af,beq_iff_eq]at ok;obtain⟨⟨rfl,rfl⟩,b⟩:=ok;simp[Rp,b]
  ·simp only[beq_iff_eq]at ok;subst ok;simp[Rp]
  ·simp only[af,beq_iff_eq,Nat.ble_eq]at ok;obtain⟨e,b⟩:=ok;rw[Jx e]at b ⊢;simp[Rp,b]
  ·simp only[oU]at ok;simp only[Rp];exact⟨O,0,0,rfl,rfl,au _,by simp[maxLen],λ_=>km,ok,λ_ h=>by simp at h,.inl ⟨rfl,trivial⟩⟩
  ·cases ok
section
variable {P:Program} {γ:Gh} {h0:Nat->Nat} {io:M Nat} {w0:World} {s s':St} {f:Fm} {w:World} {N:Nat} {ty:TypeId} {pos:String} {aft:Array Edge} {gd:u (Nat×Bool)} {K:Fm->World->Prop}
 {cf:Nat->M A->u (M A×M A)} {mf:Nat->Bool->M D->Int->u (M D×Int)}
theorem Mr{T:TypeId}{a:M Value}(h:sv P T=Z a):∃z0:Value,z0.cells.toList=a/\∀w,(zeroValue T).run P w=.ok z0 w:=by
 unfold sv at h;cases c:P.info? T with
 |none=>rw[c]at h;simp at h
 |some i=>
  rw[c]at h;cases b:i.zero with
  |none=>simp[b]at h
  |some z0=>
   simp[b]at h;exact⟨z0,h,λw=>by simp[zeroValue,typeInfo,c,b]⟩
theorem aag(d:Inv γ h0 io w0 s f w){T:TypeId}{a:M Value}{j:M C}{b:Nat}(r:sv P T=Z a)(H:Ji a j=I)(i:ky cf mf s (Z b) (.alloc j)=Z s')
  (h:∀c n k,Inv c h0 io w0 s' n k->Tr (Z b) [b] γ w c k f n->K n k):wo P N ⟨Z b,.alloc T,ty,pos,aft,gd⟩ f w K:=by
 simp only[ky]at i
 split at i
 ·rename_i v;simp only[aa]at i;subst i;obtain⟨z0,m,l⟩:=Mr r;have l:(execOp (fr f N).eval ⟨Z b,.alloc T,ty,pos,aft,gd⟩).run P w=.ok (.value (.pointer (Z ⟨w.heap.size,0,O⟩))) (w.alloc (.cells a.toArray T)):=by
   simp[execOp,Instr.alloc,l,newVar,newRow,newObj,Sem.run,<- m]
  refine LO l λq L o hB=>?_;have G:=d.Mv o;obtain⟨c,p,F,B,y,_,_⟩:=G.HQ (b:=b) hB (.inl (d.rk (au _))) (.inl d.size) (d.gy _ (au _)) (zh a j H);rw[BD v]at p;refine h c _ q (p.put b (.ptr b 0) _ (by simp only[CR,F])) ⟨kJ d o _,λx t=>B x (λe=>t (by rw[e])),λg=>by rw[y];exact au _,.put⟩
 ·cases i
theorem ah8(a:Inv γ h0 io w0 s f w){T:TypeId}{x:Operand}{y:KX}{b:Nat}(i:kX N x y=I)(c:ky cf mf s (Z b) (.box y)=Z s')
  (h:∀γ' k d,Inv γ' h0 io w0 s' k d->Tr (Z b) [b] γ w γ' d f k->K k d):wo P N ⟨Z b,.box T x,ty,pos,aft,gd⟩ f w K:=by
 simp only[ky]at c
 split at c
 ·rename_i p;simp only[aa]at c;subst c;obtain⟨n,_,_⟩:=(cy a i).cells p;have o:(execOp (fr f N).eval ⟨Z b,.box T x,ty,pos,aft,gd⟩).run P w=.ok (.value (.pointer (Z ⟨w.heap.size,0,O⟩))) (w.alloc (.cells ((fr f N).eval x).cells.toList.toArray T)):=by
   simp[execOp,Instr.box,newVar,newRow,newObj,Sem.run]
  refine LO o λm C j hB=>?_;have B:=a.Mv j;have l:fF γ m (fX s y).cells ((fr f N).eval x).cells.toList:=n.mono (γ':=γ) (λ_=>au _) (kJ a j (λ_=>False)).cell rfl rfl _;obtain⟨γ',v,t,r,q,_,_⟩:=B.HQ (b:=b) hB (.inl (a.rk (au _))) (.inl a.size) (a.gy _ (au _)) l;refine h γ' _ m (v.put b (.ptr b 0) _ (by simp only[CR,t])) ⟨kJ a j _,λx i=>r x (λe=>i (by rw[e])),λg=>by rw[q];exact au _,.put⟩
 ·cases c
theorem fQ.Mv{w a:World}{es:M (M D)}{b:M Value}{G:Fp}(h:fQ w es b G)(c:Bk w.heap.size w a):fQ a es b G:=
 h.eB es λe d j _=>World.cell?_of_block (w:=w) (c.block _ (fQ.lt es h e d))
theorem Inv.newRow(d:Inv γ h0 io w0 s f w){γ0:Gh}{i:World}(l:Bk w.heap.size w i){T:TypeId}{t:M Value}(hB:kQ i w.heap.size T t){es:M (M D)}{q:M Value}{k:Nat}{B dp:Bool}{G:Fp}{n c:Nat}(hs:i.heap.size=w.heap.size+1)
  (C:fQ w es q G) (hx:t.take (n * k)=q) (hn:n=es.length) (Fl:n<=c) (hc:c<=maxLen) (x:t.length=c * k) (X:0 < k) (Bv:∀e∈es,e.length=k) (W:B=I->flat es) (he:Emb γ0 w dp G γ) (r:Nat) :
  ∃b,Inv b h0 io w0 (s.newRow r ⟨es,k,B,dp,I,J⟩) f i/\b.sl r=.slice (Z ⟨w.heap.size,0,O⟩) n c/\b.β=γ.β/\(∀g,γ.h g<=b.h g):=by
 have v:jo i w.heap.size 0 q:=by
  intro j a y;rw[bD,hB.cell];rw[<- hx,da]at y
  split at y
  ·exact y
  ·cases y
 cases dp with
 |true=>
  obtain⟨mb,V⟩:=he.deep rfl;have S:=d.Mv l;have F:oW γ.h i ⟨es,k,B,I,I,J⟩ (.slice (Z ⟨w.heap.size,0,O⟩) n c) (w.heap.size::G.map eK):=by
   refine⟨_,n,c,rfl,hn,Fl,hc,X,Bv,W,.inr ⟨w.heap.size,0,q,G,rfl,by omega,⟨by omega,l.FP _ (au _)⟩,C.Mv l,v,by rw[d.gy _ (au _)];omega,λ_=>d.gy _ (au _),λ_=>⟨rfl,T,t,hB,x⟩,λ_=>⟨rfl,λo m=>⟨(V o m).1.2.1,(kJ d l (λ_=>False)).gW _ (V o m).1.2.2⟩⟩,λh=>by cases h⟩⟩
  have Y:=fQ.lt es C;obtain⟨b,R,Q,L,H,_⟩:=S.ux (r:=r) F (cl.2 ⟨λhm=>by
    obtain⟨o,m,e⟩:=cm.1 hm;have:=Y o m;omega,mb⟩) (λg p=>by
    rcases aP.1 p with rfl|p
    ·exact⟨.inl (d.rk (au _)),by omega,.inl d.size⟩
    ·obtain⟨o,m,rfl⟩:=cm.1 p;have x:=(V o m).1.1;exact⟨.inr (.inl x),by have:=Y o m;omega,(d.own _ (by rw[x];simp)).2⟩)
  exact⟨b,R,Q,L,λg=>by rw[H];exact au _⟩
 |false=>
  obtain⟨lZ,i2,b2,s2,m2,U,fr2,k2⟩:=d.aa0 G he.some_;have S:=i2.Mv l;have F:oW lZ.h i ⟨es,k,B,J,I,J⟩ (.slice (Z ⟨w.heap.size,0,O⟩) n c) [w.heap.size]:=by
   refine⟨_,n,c,rfl,hn,Fl,hc,X,Bv,W,.inr ⟨w.heap.size,0,q,G,rfl,by omega,⟨by omega,l.FP _ (au _)⟩,C.Mv l,v,by rw[i2.gy _ (au _)];omega,λ_=>i2.gy _ (au _),λ_=>⟨rfl,T,t,hB,x⟩,(λh=>by cases h),λ_=>⟨rfl,U⟩⟩⟩
  obtain⟨b,R,Q,L,H,_⟩:=S.ux (r:=r) F (by simp) (λg p=>by
    simp only[bI]at p;subst p;exact⟨.inl (i2.rk (au _)),by omega,.inl d.size⟩)
  exact⟨b,R,Q,L.trans b2,λg=>by rw[H];exact m2 g⟩
def BF(N:Nat):Nat->M (Nat×Operand)->M KX->Bool
 |_,[],[]=>I
 |j,(i,x)::a,y::ys=>i ==j && kX N x y && BF N (j+1) a ys
 |_,_,_=>J
theorem Ho(b:Inv γ h0 io w0 s f w):∀(j:Nat) (a:M (Nat×Operand)) (ys:M KX),BF N j a ys=I->
  fF γ w (ys.map (fX s)) (a.map λp=>(fr f N).eval p.2)/\a.map eK=sF j a.length/\a.length=ys.length
 |_,[],[],_=>by simp[fF]
 |_,[],_::_,h=>by simp[BF]at h
 |_,_::_,[],h=>by simp[BF]at h
 |j,(i,x)::a,y::ys,h=>by
  simp only[BF,af,beq_iff_eq]at h;obtain⟨⟨rfl,k⟩,g⟩:=h;obtain⟨e,d,c⟩:=Ho b (i+1) a ys g;refine⟨?_,by simp[sF,d],by simp[c]⟩;simp only[aW,fF];exact⟨_,_,rfl,cy b k,e⟩
theorem K4{k:Nat}:∀(d:M (Nat×Value)) (j:Nat) (b A:M Value),b.length=j * k->d.map eK=sF j d.length->(∀v∈d,v.2.cells.size=k)->A.length=d.length * k->
  Instr.fill (λi=>Z (i * k,k)) (b++A).toArray d=Z (b++d.flatMap λv=>v.2.cells.toList).toArray
 |[],j,b,A,_,_,_,g=>by
  have:A=[]:=ck (by simpa using g);simp[Instr.fill,this]
 |(i,v)::d,j,b,A,l,m,n,g=>by
  simp only[aW,aE,sF,bZ]at m;obtain⟨rfl,m⟩:=m;have h:=n (i,v) (by simp);simp only at h
  simp only[aE,n8]at g;simp only[Instr.fill,nW,aR,l,g,h];rw[if_neg (by simp)];have e:v.cells.zipIdx.foldl (λt (c,j)=>t.setIfInBounds (i * k+j) c) (b++A).toArray=((b++v.cells.toList)++A.drop k).toArray:=by
   have o:=QD (i * k) v.cells.toList (b++A).toArray (by simp[l,g,h]);simp only[Array.toArray_toList]at o;rw[o]
   congr 1
   have p:(b++A).take (i * k)=b:=by rw[<- l];exact nX
   have t2:(b++A).drop (i * k+k)=A.drop k:=by
    rw[List.drop_append,eJ (by omega),l,ur,ay]
   unfold cF;simp only[eW,h,p,t2]
  rw[e];have q:=K4 d (i+1) (b++v.cells.toList) (A.drop k) (by simp[l,h,n8]) m (λa r=>n a (by simp[r])) (by simp[g]);rw[q];simp
theorem P_(C:Inv γ h0 io w0 s f w){T a:TypeId}{n k:Nat}{fl:Bool}{b:Array (Nat×Operand)}{ys:M KX}{r:Nat}(hU:P.underlying T=Z (.slice a))(hS:nK P a=Z k)(l:n=0\/(sv P a).isSome=I)(B:BF N 0 b.toList ys=I)(hn:n=b.size)(hm:gV (n * k) 16777216=I)
  (e:ky cf mf s (Z r) (.qx k fl ys)=Z s') (h:∀d L t,Inv d h0 io w0 s' L t->Tr (Z r) (r::tG (ys.map (fX s))) γ w d t f L->K L t):wo P N ⟨Z r,.buildSlice T n b,ty,pos,aft,gd⟩ f w K:=by
 simp only[ky]at e
 split at e
 ·rename_i es dp s1 F
  split at e
  ·rename_i W;simp only[aa]at e;subst e;obtain⟨H,R,m⟩:=Ho C 0 _ _ B;obtain⟨nC,G,i1,X,Q,l1,Y,f1,z1⟩:=KQ _ C H F;have mR:(b.toList.map λp=>(fr f N).eval p.2).flatMap (λv=>v.cells.toList)=(b.toList.map λp=>(p.1,(fr f N).eval p.2)).flatMap λv=>v.2.cells.toList:=by
    simp[List.flatMap_map]
   have RJ:n=es.length:=by rw[l1,aj,<- m,hn,eW]
   have B2:((b.toList.map λp=>(fr f N).eval p.2).flatMap λv=>v.cells.toList).length=n * k:=by rw[fQ.length es X Y,RJ]
   have hm':n * k<=16777216:=by simpa using hm
   have mu:(execOp (fr f N).eval ⟨Z r,.buildSlice T n b,ty,pos,aft,gd⟩).run P w=.ok (.value (.slice (Z ⟨w.heap.size,0,O⟩) n n)) (w.alloc (.cells ((b.toList.map λp=>(fr f N).eval p.2).flatMap λv=>v.cells.toList).toArray a)):=by
    have q:¬(n * k > 2 ^ 24):=by omega
    have S:∀A:Array Value,A.size=n * k->Instr.fill (λi=>Z (i * k,k)) A (b.toList.map λp=>(p.1,(fr f N).eval p.2))=Z ((b.toList.map λp=>(fr f N).eval p.2).flatMap λv=>v.cells.toList).toArray:=by
     intro A hA;have h1:=K4 (k:=k) (b.toList.map λp=>(p.1,(fr f N).eval p.2)) 0 [] A.toList (by simp) (by rw[List.map_map,aj];exact R) (by
      intro v hv;obtain⟨p,hp,rfl⟩:=cm.1 hv;exact z1 _ (ey hp)) (by simp[hA,hn])
     rw[mR]
     simpa using h1
    have o:=λV:Array Value=>S ((Array.range (n * k)).map (V[· % V.size]!)) (by simp);by_cases U:n * k=0
    ·have j:=o #[];simp only[execOp,Instr.buildSlice,Sem.run_bind,run_underlying hU,Result.andThen_ok,run_sizeOf hS,if_neg q,if_pos U,Sem.run_pure];simp only[mB]at j ⊢;rw[j];simp[newRow,newObj,Sem.run]
    ·have ZK:(sv P a).isSome=I:=by
      rcases l with l|l
      ·subst l;simp at U
      ·exact l
     obtain⟨zl,Nv⟩:=cn.1 ZK;obtain⟨z0,_,y⟩:=Mr Nv;have j:=o z0.cells;simp only[execOp,Instr.buildSlice,Sem.run_bind,run_underlying hU,Result.andThen_ok,run_sizeOf hS,if_neg q,if_neg U,y,Sem.run_pure];simp only[mB]at j ⊢;rw[j];simp[newRow,newObj,Sem.run]
   refine LO mu λw1 hs hk hB=>?_;obtain⟨d,h2,j,h4,h5⟩:=i1.newRow hk hB (n:=n) (c:=n) hs X (by rw[<- B2,bN]) RJ (au _) (by simp[maxLen];have:n<=n * k:=Nat.le_mul_of_pos_right n W;omega) B2 W Y f1 Q r;refine h d _ w1 (h2.put r (.ref r) _ (by simp only[CR,j];exact⟨trivial,_,_,_,rfl⟩)) ⟨kJ C hk _,λx _=>by rw[h4,Q.β],λg=>aL (Q.h g) (h5 g),.put⟩
  ·cases e
 ·cases e
end
end
section
open Go.RowKit
section
variable {γ:Gh} {h0:Nat->Nat} {io:M Nat} {w0:World} {s s':St} {f:Fm} {w:World}
theorem Inv.tu(v:Inv γ h0 io w0 s f w){r:Nat}{x:Row}(hl:look s.rw r=Z x) :
  ∃a A n c,Inv a h0 io w0 (s.cQ r) f w/\a.β=γ.β/\a.sl=γ.sl/\a.h=γ.h/\(∀g,γ.ω g≠.row r->a.ω g=γ.ω g)/\(∀g,γ.ω g=.row r->a.ω g=.fP)/\
   γ.sl r=.slice A n c/\n=x.es.length/\n<=c/\c<=maxLen/\0 < x.k/\(∀e∈x.es,e.length=x.k)/\(x.fl=I->flat x.es)/\
   ((A=O/\c=0)\/∃g o m G,A=Z ⟨g,o,O⟩/\g < w.heap.size/\γ.ω g=.row r/\a.ω g=.fP/\oX w g/\fQ w x.es m G/\jo w g o m/\γ.h g<=o+n * x.k/\(x.fz=J->γ.h g=0)/\
    (x.app=I->o=0/\∃T C,kQ w g T C/\C.length=c * x.k)/\(∀d∈G,d.2<=γ.h d.1\/(yd a w d.1/\d.1≠g))/\(x.deep=I->(g::G.map eK).Nodup/\∀d∈G,yd a w d.1/\γ.ω d.1=.row r)):=by
 obtain⟨F,hR,t,p⟩:=v.rw r x hl;obtain⟨A,n,c,X,W,V,U,S,R,Q,P⟩:=hR;have Lj:=v.cQ r;have Ei:∀g,γ.ω g=.row r->(∀b K,look (s.cQ r).bx b=Z K->γ.ω g≠.box b)/\∀q y,look (s.cQ r).rw q=Z y->γ.ω g≠.row q:=by
  intro g j;refine⟨λb K _=>by rw[j];simp,λq y hq=>?_⟩;simp only[St.cQ,fg]at hq
  simp_all
 have Y:=Lj.settle (h':=γ.h) (ω':=λy=>if γ.ω y=.row r then .fP else γ.ω y) (λ_=>au _) (λg j=>absurd rfl j)
  (λy=>by
   by_cases i:γ.ω y=.row r
   ·exact .inr ⟨.inr (by simp[i]),by rw[i];simp,Ei y i⟩
   ·exact .inl (by simp[i]))
  (λy b i=>by
   by_cases L:γ.ω y=.row r
   ·simp[L]at i
   ·simp only[if_neg L]at i;exact v.nE y b i)
 refine⟨_,A,n,c,Y,rfl,rfl,rfl,λg j=>by simp[j],λg j=>by simp[j],X,W,V,U,S,R,Q,?_⟩;rcases P with ⟨rfl,rfl,rfl⟩|⟨g,o,m,G,rfl,a2,a3,a4,a5,a6,a7,a8,a9,D⟩
 ·exact .inl ⟨rfl,rfl⟩
 ·have B:γ.ω g=.row r:=by
   cases hd:x.deep with
   |true=>exact p g (by rw[(a9 hd).1];simp)
   |false=>exact p g (by rw[(D hd).1];simp)
  have N:x.deep=I->∀d∈G,yd {γ with h:=γ.h,ω:=λy=>if γ.ω y=.row r then .fP else γ.ω y } w d.1/\γ.ω d.1=.row r:=λhd d l=>by
   have H:γ.ω d.1=.row r:=p _ (by rw[(a9 hd).1];simp;exact .inr ⟨d.2,l⟩);exact⟨⟨by simp[H],((a9 hd).2 d l).1,((a9 hd).2 d l).2⟩,H⟩
  refine .inr ⟨g,o,m,G,rfl,a2,B,by simp[B],a3,a4,a5,a6,a7,a8,λd l=>?_,λhd=>⟨by rw[<- (a9 hd).1];exact t,N hd⟩⟩;cases hd:x.deep with
  |true=>
   refine .inr ⟨(N hd d l).1,λe=>?_⟩;rw[(a9 hd).1]at t;exact (cl.1 t).1 (by rw[<- e];exact ey l)
  |false=>exact .inl ((D hd).2 d l)
theorem Inv.Gk(v:Inv γ h0 io w0 s f w){r:Nat}{x:Row}{n c g o:Nat}{B:M Value}{G:Fp}(V:n=x.es.length)(Fl:n<=c)(X:c<=maxLen)(N:0 < x.k)(Bv:∀e∈x.es,e.length=x.k)(L:x.fl=I->flat x.es)
  (C:g < w.heap.size) (P:γ.ω g=.fP\/γ.ω g=.free) (t:w0.heap.size<=g\/g∈io) (Y:oX w g) (D:fQ w x.es B G) (j:jo w g o B) (W:γ.h g<=o+n * x.k) (Av:x.fz=J->γ.h g=0) (Q:x.app=I->o=0/\∃T K,kQ w g T K/\K.length=c * x.k)
  (BC:∀p∈G,p.2<=γ.h p.1\/(yd γ w p.1/\p.1≠g)) (Dm:x.deep=I->(g::G.map eK).Nodup/\∀p∈G,yd γ w p.1) :
  ∃i F,Inv i h0 io w0 s f w/\i.β=γ.β/\i.sl=γ.sl/\(∀y,γ.h y<=i.h y)/\oW i.h w x (.slice (Z ⟨g,o,O⟩) n c) F/\F.Nodup/\(∀y∈F,(i.ω y=.free\/i.ω y=.fP\/i.ω y=.row r)/\y < w.heap.size/\(w0.heap.size<=y\/y∈io))/\(x.deep=J->eM i.h G)/\(∀y,i.ω y=γ.ω y\/i.ω y=.free):=by
 cases hd:x.deep with
 |true=>
  obtain⟨mb,Dp⟩:=Dm hd;have H:oW γ.h w x (.slice (Z ⟨g,o,O⟩) n c) (g::G.map eK):=by
   refine⟨_,n,c,rfl,V,Fl,X,N,Bv,L,.inr ⟨g,o,B,G,rfl,C,Y,D,j,W,Av,Q,λ_=>⟨rfl,λp m=>(Dp p m).2⟩,λh=>by rw[hd]at h;cases h⟩⟩
  have iM:=fQ.lt _ D;exact⟨γ,_,v,rfl,rfl,λ_=>au _,H,mb,λy q=>by
    rcases aP.1 q with rfl|q
    ·exact⟨by rcases P with h|h<;>simp[h],C,t⟩
    ·obtain⟨p,m,rfl⟩:=cm.1 q;have j:=(Dp p m).1;exact⟨.inr (.inl j),iM p m,(v.own _ (by rw[j];simp)).2⟩,(λh=>by cases h),λ_=>.inl rfl⟩
 |false=>
  have mx:∀(l:M Nat) (a b:Nat),(b=a\/b∈l)->b<=l.foldl max a:=by
   intro l
   induction l with
   |nil=>intro a b m;simp at m;simp[m]
   |cons d l S=>
    intro a b m;simp only[wm];have h1:=S (max a d) (max a d) (.inl rfl);rcases m with rfl|m
    ·omega
    ·rcases aP.1 m with rfl|m
     ·omega
     ·exact S _ _ (.inr m)
  have hs:=v.settle (h':=λy=>if γ.ω y=.fP/\y≠g then γ.h y+(G.map rq).foldl max 0 else γ.h y) (ω':=λy=>if γ.ω y=.fP/\y≠g then .free else γ.ω y) (λy=>by split<;>omega)
   (λy q=>by
    have j:γ.ω y=.fP:=by
     simp_all
    have U:=v.own y (by rw[j];simp);exact⟨U.1,U.2,λ_ _ _=>by rw[j];simp,λ_ _ _=>by rw[j];simp⟩)
   (λy=>by
    by_cases j:γ.ω y=.fP/\y≠g
    ·simp_all
    ·exact .inl (by rw[if_neg j]))
   (λy b q=>by
    by_cases j:γ.ω y=.fP/\y≠g
    ·rw[if_pos j]at q;cases q
    ·rw[if_neg j]at q ⊢;exact v.nE y b q)
  have R:eM (λy=>if γ.ω y=.fP/\y≠g then γ.h y+(G.map rq).foldl max 0 else γ.h y) G:=by
   intro p m;have hle:=mx (G.map rq) 0 p.2 (.inr (ey m));dsimp only;split
   ·omega
   ·rename_i j;rcases BC p m with h|h
    ·exact h
    ·exact absurd ⟨h.1.1,h.2⟩ j
  have A:(λy=>if γ.ω y=.fP/\y≠g then γ.h y+(G.map rq).foldl max 0 else γ.h y) g=γ.h g:=by simp
  have H:oW (λy=>if γ.ω y=.fP/\y≠g then γ.h y+(G.map rq).foldl max 0 else γ.h y) w x (.slice (Z ⟨g,o,O⟩) n c) [g]:=by
   refine⟨_,n,c,rfl,V,Fl,X,N,Bv,L,.inr ⟨g,o,B,G,rfl,C,Y,D,j,by rw[A];exact W,λh=>by rw[A];exact Av h,Q,(λh=>by rw[hd]at h;cases h),λ_=>⟨rfl,R⟩⟩⟩
  exact⟨_,[g],hs,rfl,rfl,λy=>by dsimp only;split<;>omega,H,by simp,λy q=>by
    simp only[bI]at q;subst q;refine⟨?_,C,t⟩;rcases P with h|h<;>simp[h],λ_=>R,λy=>by dsimp only;split<;>simp⟩
theorem Inv.pE(Q:Inv γ h0 io w0 s f w){r:Nat}{x:Row}{n c g o:Nat}{i:M Value}{G:Fp}(N:n=x.es.length)(Fl:n<=c)(U:c<=maxLen)(m:0 < x.k)(Bv:∀e∈x.es,e.length=x.k)(l:x.fl=I->flat x.es)
  (S:g < w.heap.size) (p:γ.ω g=.fP\/γ.ω g=.free) (d:w0.heap.size<=g\/g∈io) (Ns:oX w g) (K:fQ w x.es i G) (P:jo w g o i) (R:γ.h g<=o+n * x.k) (Av:x.fz=J->γ.h g=0) (v:x.app=I->o=0/\∃T j,kQ w g T j/\j.length=c * x.k)
  (BC:∀b∈G,b.2<=γ.h b.1\/(yd γ w b.1/\b.1≠g)) (Dm:x.deep=I->(g::G.map eK).Nodup/\∀b∈G,yd γ w b.1) :
  ∃a,Inv a h0 io w0 (s.newRow r x) f w/\a.sl r=.slice (Z ⟨g,o,O⟩) n c/\a.β=γ.β/\(∀y,γ.h y<=a.h y)/\∀q,q≠r->a.sl q=γ.sl q:=by
 obtain⟨nC,F,C,b1,t,B,V,A,W,H,D⟩:=Q.Gk (r:=r) N Fl U m Bv l S p d Ns K P R Av v BC Dm;obtain⟨a,h2,h3,h4,Y,_,X⟩:=C.ux (r:=r) V A W;exact⟨a,h2,h3,h4.trans b1,λy=>by rw[Y];exact B y,λq L=>by rw[X q L,t]⟩
theorem Inv.vD(S:Inv γ h0 io w0 s f w){r:Nat}{x:Row}{n c g o:Nat}{m:M Value}{G:Fp}(Q:n=x.es.length)(Fl:n<=c)(W:c<=maxLen)(B:0 < x.k)(Bv:∀e∈x.es,e.length=x.k)(A:x.fl=I->flat x.es)
  (V:g < w.heap.size) (C:γ.ω g=.fP\/γ.ω g=.free) (j:w0.heap.size<=g\/g∈io) (Ns:oX w g) (P:fQ w x.es m G) (R:jo w g o m) (U:γ.h g<=o+n * x.k) (Av:x.fz=J->γ.h g=0) (H:x.app=I->o=0/\∃T p,kQ w g T p/\p.length=c * x.k)
  (BC:∀b∈G,b.2<=γ.h b.1\/(yd γ w b.1/\b.1≠g)) (Dm:x.deep=I->(g::G.map eK).Nodup/\∀b∈G,yd γ w b.1) (D:γ.sl r=.slice (Z ⟨g,o,O⟩) n c) :
  ∃a,Inv a h0 io w0 (s.setRow r x) f w/\a.sl=γ.sl/\a.β=γ.β/\(∀y,γ.h y<=a.h y)/\(x.deep=J->eM a.h G)/\(∀y,a.ω y=γ.ω y\/a.ω y=.free\/a.ω y=.row r):=by
 obtain⟨nC,F,N,b1,q,L,t,K,X,i,d⟩:=S.Gk (r:=r) Q Fl W B Bv A V C j Ns P R U Av H BC Dm;rw[<- D,<- q]at t;obtain⟨a,h2,h3,h4,v,Y⟩:=N.setRow (r:=r) t K X;exact⟨a,h2,h3.trans q,h4.trans b1,λy=>by rw[v];exact L y,λhd=>by rw[v];exact i hd,λy=>by
  rcases Y y with h|h
  ·rw[h];rcases d y with l|l
   ·exact .inl l
   ·exact .inr (.inl l)
  ·exact .inr (.inr h)⟩
theorem mC(m:Inv γ h0 io w0 s f w){g:Nat}{b:World}{M:Own->Prop}(a:FY g w b)(l:M (γ.ω g))(k:∀j,j < γ.h g->b.cell? ⟨g,j,O⟩=w.cell? ⟨g,j,O⟩):wK γ M w b where
 os:=a.os
 tape:=a.tape
 output:=a.output
 size:=by rw[a.size];exact au _
 block y c d:=a.block y (λe=>d (e▸l))
 cell y j i:=by
  by_cases e:y=g
  ·subst e;exact k j i
  ·exact World.cell?_of_block (w:=w) (a.block y e)
 gW y c:=⟨by rw[a.size];exact c.1,λj=>by
  by_cases e:y=g
  ·subst e;exact a.fz j
  ·rw[World.frozen?_of_block (w:=w) (a.block y e)];exact c.2 j⟩
end
theorem Oh(p m q a:M Value)(h:a.length=m.length):cF (p++(m++q)) p.length a=p++a++q:=by
 unfold cF;simp_all
theorem jS{a b:M Value}{i:Nat}(h:i+b.length<=a.length):(cF a i b).length=a.length:=by
 unfold cF;simp
 omega
theorem NR{g:Nat}{d b e Gs c a:Fp}(h:(g::(d++((b++(e++Gs))++c)).map eK).Nodup)(i:(a.map eK).Nodup)(hd:∀y∈(d++((b++(e++Gs))++c)).map eK,y∉a.map eK)(f:g∉a.map eK) :
  (g::(d++((b++a++Gs)++c)).map eK).Nodup:=by
 simp only[bR,cl,aS,bG,not_or]at *
 grind
section
variable {P:Program} {γ:Gh} {h0:Nat->Nat} {io:M Nat} {w0:World} {s s':St} {f:Fm} {w:World} {N:Nat} {ty:TypeId} {pos:String} {aft:Array Edge} {gd:u (Nat×Bool)} {K:Fm->World->Prop}
 {cf:Nat->M A->u (M A×M A)} {mf:Nat->Bool->M D->Int->u (M D×Int)}
theorem Hj{a:Array Value}{k:Nat}(c:a.size=k)(e:0 < k):∀m:Nat,(madeCells a (m * k)).toList=(bc m a.toList).flatten
 |0=>by simp[madeCells]
 |m+1=>by
  rw[ja,List.flatten_cons,<- Hj c e m]
  apply fi
  intro i;have g1:∀n j,(madeCells a n).toList[j]?=if j < n then Z a[j % a.size]! else O:=by
   intro n j;simp only[madeCells,mB,Array.toList_range,List.getElem?_map];split
   ·rename_i h;simp[h]
   ·rename_i h;simp[h]
  rw[g1,xZ,g1];simp only[eW,c,n8];by_cases b:i < k
  ·rw[if_pos (by omega),if_pos b,Nat.mod_eq_of_lt b];simp[c,b]
  ·rw[if_neg b];by_cases d:i < m * k+k
   ·rw[if_pos d,if_pos (by omega)]
    rw[Nat.mod_eq_sub_mod (by omega)]
   ·rw[if_neg d,if_neg (by omega)]
theorem QI{w:World}{b:M D}{a:M Value}(h:fV w b a []):∀m:Nat,fQ w (bc m b) (bc m a).flatten []
 |0=>by simp[fQ]
 |m+1=>by
  rw[ja,ja,List.flatten_cons];simp only[fQ];exact⟨a,_,[],[],rfl,rfl,h,QI h m⟩
theorem adY(v:Inv γ h0 io w0 s f w){T b:TypeId}{k l:Nat}{Y:Bool}{o:M D}{x C:Operand}{y:KX}{r:Nat}{i:TypeInfo}{a:Value}(hU:P.underlying T=Z (.slice b))(hI:P.info? b=Z i)(hz:i.zero=Z a)(mR:i.size=k)(L:i.bytes=l)(U:0 < k)(G:Eo a.cells.toList o=I)(Nv:o.length=k)(ub:Y=I->cD o=I)
  (q:kX N x y=I) (VL:kX N C y=I) (d:ky cf mf s (Z r) (.make k l Y o y)=Z s') (h:∀j Q F,Inv j h0 io w0 s' Q F->Tr (Z r) [r] γ w j F f Q->K Q F):wo P N ⟨Z r,.makeSlice T x C,ty,pos,aft,gd⟩ f w K:=by
 have t:=cy v q;have B:=cy v VL;simp only[ky]at d
 split at d
 ·rename_i r' n hr hn;cases hr;rw[hn]at t B;obtain⟨t,_⟩:=kL t;obtain⟨B,_⟩:=kL B
  split at d
  ·rename_i hc;obtain⟨c1,c2,c3⟩:=hc;simp only[aa]at d;subst d;have BZ:(i.bytes:Int) * n<=281474976710656:=by
    rw[L];have R:n.toNat * l<=140737488355328:=c2;have:((n.toNat * l:Nat):Int)<=140737488355328:=Int.ofNat_le.2 R;rw[Int.natCast_mul,Int.toNat_of_nonneg c1,Int.mul_comm]at this;omega
   have V:=run_make (P:=P) w T b i a hU hI hz .i64 .i64 n n c1 (yb _) BZ (by omega);have p:fV w o a.cells.toList []:=Hp _ _ G;have H:a.cells.size=k:=by rw[<- eW,fV.length _ p,Nv]
   have sS:=Hj H U n.toNat;have S:(execOp (fr f N).eval ⟨Z r,.makeSlice T x C,ty,pos,aft,gd⟩).run P w=.ok (.value (.slice (Z ⟨w.heap.size,0,O⟩) n.toNat n.toNat)) (w.alloc (.cells (bc n.toNat a.cells.toList).flatten.toArray b)):=by
    rw[mR]at V;rw[<- sS];simp[execOp,t,B,V]
   have RN:=QI p n.toNat;have Bv:∀e∈bc n.toNat o,e.length=k:=λe d=>by rw[(List.mem_replicate.1 d).2];exact Nv
   have m:((bc n.toNat a.cells.toList).flatten).length=n.toNat * k:=by rw[fQ.length _ RN Bv];simp
   refine LO S λw1 hs W hB=>?_;obtain⟨j,h2,h3,h4,h5⟩:=v.newRow (γ0:=γ) (dp:=I) W hB (n:=n.toNat) (c:=n.toNat) hs RN (by rw[<- m,bN]) (by simp) (au _) (by simp[maxLen];omega) m U Bv (λhf e d x q=>by
     have X:=ub hf;rw[(List.mem_replicate.1 d).2]at q;simp only[cD,bg]at X;exact X x q) ⟨rfl,rfl,λ_=>au _,λ_ h=>by simp at h,λ_=>by simp,λ_ h=>⟨h,rfl⟩,λ_=>.inl rfl⟩ r
   exact h j _ w1 (h2.put r (.ref r) _ (by simp only[CR,h3];exact⟨trivial,_,_,_,rfl⟩)) ⟨kJ v W _,λx _=>by rw[h4],λg=>h5 g,.put⟩
  ·cases d
 ·cases d
theorem alM(hi:Inv γ h0 io w0 s f w){T:TypeId}{x v:Operand}{a b:KX}{n:Nat}(hS:nK P T=Z n)(hx:kX N x a=I)(hv:kX N v b=I)(Q:ky cf mf s O (.st n a b)=Z s')
  (h:∀γ' f' w',Inv γ' h0 io w0 s' f' w'->Tr O (eY s O (.st n a b)) γ w γ' w' f f'->K f' w'):wo P N ⟨O,.store T x v,ty,pos,aft,gd⟩ f w K:=by
 have qM:=cy hi hx;have hpv:=cy hi hv;have fin:∀(g o:Nat) (S:TypeId) (R:List Value),(fr f N).eval x=.pointer (Z ⟨g,o,O⟩)->kQ w g S R->((fr f N).eval v).cells.toList.length=n->o+n<=R.length->(∀q∈((fr f N).eval v).cells.toList,one q=I)->
   (execOp (fr f N).eval ⟨O,.store T x v,ty,pos,aft,gd⟩).run P w=.ok .skip (gM w g (.cells (cF R o ((fr f N).eval v).cells.toList).toArray S (0,0))):=by
  intro g o S R hp hB hl ho h1;have qf:=nu (P:=P) (o:=o) ((fr f N).eval v).cells.toList 0 w R hB (by omega) h1;simp only[eu]at qf;have mR:((fr f N).eval v).cells.size=n:=by rw[<- eW];exact hl
  simp[execOp,Instr.storeAt,hp,Instr.sureAddr,storeVar,run_sizeOf hS,mR,qf]
 have aip:∀{R:List C} {B:List Value},fF γ w R B->R.all C.cell=I->∀q∈B,one q=I:=by
  intro R
  induction R with
  |nil=>intro B h _;simp only[fF]at h;simp[h]
  |cons c R ih=>
   intro B h hc;simp only[fF]at h;obtain⟨v,fK,rfl,h2,h3⟩:=h;simp only[bJ,af]at hc;intro q hu;rcases aP.1 hu with rfl|hu
   ·cases c with
    |d x=>simp only[CR]at h2;obtain⟨F,h4,_⟩:=h2;exact h4.rW
    |nil k fl=>simp only[CR]at h2;rw[h2.1];rfl
    |ref r=>simp only[CR]at h2;obtain⟨_,A,n,c,rfl⟩:=h2;rfl
    |_=>simp[C.cell]at hc
   ·exact ih h3 hc.2 q hu
 simp only[ky]at Q
 split at Q
 ·rename_i U o H;rw[H]at qM;simp only[CR]at qM
  split at Q
  ·rename_i R hl
   split at Q
   ·rename_i hc;obtain⟨c1,c2,c3⟩:=hc;simp only[aa]at Q;subst Q;obtain⟨S,B,h1,h2,h3⟩:=hi.bx U R hl;obtain⟨GO,_,_⟩:=hpv.cells c1;have hlen:=GO.length;refine NU (fin _ _ _ _ qM h1 (by rw[hlen];exact c2) (by rw[h2.length];exact c3) (aip GO c1)) ?_;have W:=FY.gM w (γ.β U) (cF B o ((fr f N).eval v).cells.toList).toArray S;have mG:wK γ (λo=>∃i∈[U],o=.box i\/o=.row i) w _:=mC hi W ⟨U,by simp,.inl h3⟩ (λj V=>by rw[hi.nE _ _ h3]at V;omega);have abO:Inv γ h0 io w0 {s with bx:=ru s.bx U } f w:=hi.sub (λ_ _ h=>h) (λd c h=>by
     simp only[fg]at h
     split at h
     ·cases h
     ·exact h) (λ_ _ h=>h)
    have h5:=abO.OQ (mC abO W (M:=λo=>o=.box U) h3 (λj V=>by rw[hi.nE _ _ h3]at V;omega)) (by simp) (λb H=>by cases H;simp[fg]) (λr hr=>by cases hr);have ag7:∀{R:List C} {us:List Value},fF γ w R us->fF γ (gM w (γ.β U) (.cells (cF B o ((fr f N).eval v).cells.toList).toArray S (0,0))) R us:=λh=>h.mono (γ':=γ) (λ_=>au _) mG.cell rfl rfl _;have h6:=h5.gk (b:=U) (h1.iw S _) h3 (ag7 (h2.zt o GO));have e:({s with bx:=ru s.bx U }:St).gk U (mi R o (fX s b).cells)=s.gk U (mi R o (fX s b).cells):=by
     have:ru (ru s.bx U) U=ru s.bx U:=by simp[ru,nz]
     simp[St.gk,this]
    rw[e]at h6;refine h γ f _ h6 ⟨?_,λ_ _=>rfl,λ_=>au _,.skip⟩;simp only[eY,H];exact mG
   ·cases Q
  ·cases Q
 ·rename_i r k i o H;rw[H]at qM;simp only[CR]at qM;obtain⟨g,p,m,cc,rR,hp⟩:=qM
  split at Q
  ·rename_i ds dp s1 hem;obtain⟨wT,vK⟩:=uN hem;obtain⟨GO,_,_⟩:=hpv.cells wT;obtain⟨nC,G1,i1,r1,e1⟩:=yw _ hi GO hem
   split at Q
   ·rename_i row hl
    split at Q
    ·rename_i e Iu
     split at Q
     ·rename_i hc;obtain⟨rfl,Av,qk,Li,hon,ub,hdd⟩:=hc;simp only[aa]at Q;subst Q;rw[fU]at Iu;obtain⟨lZ,A,n',c',i2,b2,v8,nI,o2,l2,q1,q2,q3,q4,q5,q6,q7,q8⟩:=i1.tu hl;rw[e1.sl,rR]at q1;simp only[Value.slice.injEq]at q1;obtain⟨rfl,rfl,rfl⟩:=q1;rcases q8 with ⟨q8,_⟩|⟨g',p',X,G,a1,a2,a3,a4,a5,a6,a7,a8,a9,tM,CN,a12⟩
      ·cases q8
      ·simp only[aa,Addr.mk.injEq,and_true]at a1;obtain⟨rfl,rfl⟩:=a1;obtain⟨rfl,S,B,hB,vL⟩:=tM qk;have Bx:nC.h g=0:=a9 Av;have adg:=(bm.1 Iu).1;have JV:=q6 e (gD Iu);have ZI:=GO.length;have hus:((fr f N).eval v).cells.toList.length=n:=by rw[ZI,<- vK];exact Li
       have hik:i * row.k+row.k<=row.es.length * row.k:=by rw[<- n8];exact ee _ adg
       have hck:row.es.length * row.k<=cc * row.k:=ee _ (by omega);refine NU (fin _ _ _ _ hp hB hus (by omega) (aip GO wT)) ?_;have W:=FY.gM w g (cF B (0+i * row.k+o) ((fr f N).eval v).cells.toList).toArray S;have GX:γ.ω g=.row r:=by
        rcases e1.own g with h|h|h
        ·rw[<- h];exact a3
        ·rw[a3]at h;cases h
        ·rw[a3]at h;cases h
       have alu:γ.h g=0:=by have:=e1.h g;omega
       have mG:wK γ (λo=>∃i∈r::rowsOf (fX s b).cells,o=.box i\/o=.row i) w _:=mC hi W ⟨r,by simp,.inr GX⟩ (λj V=>by rw[alu]at V;omega);have h5:=i2.OQ (mC i2 W (M:=λo=>o=.fP) a4 (λj V=>by rw[nI,Bx]at V;omega)) (by simp) (λb H=>by cases H) (λr hr=>by cases hr);have e0:row.es=row.es.take i++(e::row.es.drop (i+1)):=by
        rw[<- (bm.1 Iu).2,List.getElem_cons_drop,bh]
       have a6':=a6;rw[e0]at a6';obtain⟨x1,x2,Ga,Gb,ex,eG,ra,rb⟩:=fQ.gE _ a6';simp only[fQ]at rb;obtain⟨xe,x3,Ge,Gc,ex2,eG2,re,rc⟩:=rb;subst ex2 eG2;have yJ:x1.length=i * row.k:=by
        rw[fQ.length _ ra (λx hx=>q6 x (cz hx)),bj,ei (by omega)]
       have hle:xe.length=row.k:=by rw[fV.length _ re];exact JV
       have e2:e=e.take o++((e.drop o).take n++e.drop (o+n)):=by
        rw[<- kO,bh,bh]
       have re':=re;rw[e2]at re';obtain⟨xa,xr,Gp,Gr,ex3,eG3,rp,rr⟩:=fV.gE _ re';obtain⟨xm,xc,Gm,Gs,ex4,eG4,rm,rs⟩:=fV.gE _ rr;subst ex3 eG3 ex4 eG4;have hla:xa.length=o:=by rw[fV.length _ rp,bj,JV,ei (by omega)]
       have hlm:xm.length=n:=by rw[fV.length _ rm,bj,bT,JV,ei (by omega)]
       have gy:fV w (mi e o ds) (xa++((fr f N).eval v).cells.toList++xc) (Gp++G1++Gs):=by
        unfold mi;rw[Li];exact fV.append _ (fV.append _ rp r1) rs
       have B2:X.length<=B.length:=by rw[fQ.length _ a6 q6,vL];exact hck
       have ZB:B=X++B.drop X.length:=by
        have:B.take X.length=X:=by
         apply fi
         intro j;rw[da];by_cases V:j < X.length
         ·rw[if_pos V];have h7:=a7 j X[j] (by simp[V]);rw[bD,hB.cell]at h7;rw[h7];simp[V]
         ·rw[if_neg V,oD (by omega)]
        rw[<- bh X.length B,this];simp
       have adq:cF B (0+i * row.k+o) ((fr f N).eval v).cells.toList=(x1++((xa++((fr f N).eval v).cells.toList++xc)++x3))++B.drop X.length:=by
        have e5:B=(x1++xa)++(xm++(xc++x3++B.drop X.length)):=by
         rw[ex]at ZB;rw[ex]
         simpa using ZB
        have h7:=Oh (x1++xa) xm (xc++x3++B.drop X.length) ((fr f N).eval v).cells.toList (by omega);rw[<- e5]at h7;rw[show 0+i * row.k+o=(x1++xa).length from by simp[yJ,hla],h7];simp
       have adh:jo (gM w g (.cells (cF B (0+i * row.k+o) ((fr f N).eval v).cells.toList).toArray S (0,0))) g 0 (x1++((xa++((fr f N).eval v).cells.toList++xc)++x3)):=by
        have h7:=(hB.iw S (cF B (0+i * row.k+o) ((fr f N).eval v).cells.toList)).SN;intro j q hu;refine h7 j q ?_;rw[adq,dW (bm.1 hu).1];exact hu
       have hold:∀t∈Ga++((Gp++Gs)++Gc),t∈G:=by
        intro t H;rw[eG];simp only[aS]at H ⊢
        grind
       have sR:∀t∈Ga++((Gp++G1++Gs)++Gc),t∈G\/t∈G1:=by
        intro t H;simp only[aS]at H;by_cases Y:t∈G1
        ·exact .inr Y
        ·refine .inl (hold t ?_);simp only[aS]
         grind
       have Nr:∀t∈Ga++((Gp++G1++Gs)++Gc),t.2<=lZ.h t.1\/(yd lZ (gM w g (.cells (cF B (0+i * row.k+o) ((fr f N).eval v).cells.toList).toArray S (0,0))) t.1/\t.1≠g):=by
        intro t H;rcases sR t H with Y|Y
        ·rcases CN t Y with L|⟨L,Cs⟩
         ·exact .inl (by rw[nI];exact L)
         ·exact .inr ⟨⟨L.1,L.2.1,by rw[gm];exact L.2.2.1,λj=>by rw[World.frozen?_of_block (w:=w) (W.block _ Cs)];exact L.2.2.2 j⟩,Cs⟩
        ·rcases e1.some_ t Y with L|L
         ·exact .inl (by rw[nI];exact L)
         ·have Cs:t.1≠g:=λe=>by have:=L.1;rw[e,a3]at this;cases this
          exact .inr ⟨⟨by rw[o2 _ (by rw[L.1];simp)];exact L.1,by rw[nI];exact L.2.1,by rw[gm];exact L.2.2.1,λj=>by rw[World.frozen?_of_block (w:=w) (W.block _ Cs)];exact L.2.2.2 j⟩,Cs⟩
       have RO:fQ (gM w g (.cells (cF B (0+i * row.k+o) ((fr f N).eval v).cells.toList).toArray S (0,0))) (row.es.set i (mi e o ds)) (x1++((xa++((fr f N).eval v).cells.toList++xc)++x3)) (Ga++((Gp++G1++Gs)++Gc)):=by
        have h7:fQ w (row.es.set i (mi e o ds)) (x1++((xa++((fr f N).eval v).cells.toList++xc)++x3)) (Ga++((Gp++G1++Gs)++Gc)):=by
         rw[List.set_eq_take_append_cons_drop,if_pos adg];refine fQ.append _ ra ?_;simp only[fQ];exact⟨_,_,_,_,rfl,rfl,gy,rc⟩
        refine h7.eB _ λt H j V=>?_;by_cases Y:t.1=g
        ·rcases Nr t H with L|L
         ·rw[Y,nI,Bx]at L;omega
         ·exact absurd Y L.2
        ·exact World.cell?_of_block (w:=w) (W.block _ Y)
       obtain⟨MK,h6,h7,Y,L,_,_⟩:=h5.vD (r:=r) (x:={row with es:=row.es.set i (mi e o ds) }) (n:=m) (c:=cc) (g:=g) (o:=0) (by simp[q2]) q3 q4 q5
        (λy hy=>by
         rcases List.mem_or_eq_of_mem_set hy with h|h
         ·exact q6 y h
         ·rw[h];unfold mi;simp[JV];omega)
        (λhf y hy=>by
         rcases List.mem_or_eq_of_mem_set hy with h|h
         ·exact q7 hf y h
         ·rw[h];intro l hz;unfold mi at hz;simp only[aS]at hz;rcases hz with (hz|hz)|hz
          ·exact q7 hf e (gD Iu) l (cz hz)
          ·have:=ub hf;simp only[cD,bg]at this;exact this l hz
          ·exact q7 hf e (gD Iu) l (iD hz))
        (by rw[gm];exact a2) (.inl a4) (by have:=(i2.own g (by rw[a4];simp)).2;exact this) ⟨by rw[gm];omega,W.fz⟩ RO adh (by rw[nI,Bx];omega) (λ_=>by rw[nI,Bx]) (λ_=>⟨rfl,S,_,hB.iw S _,by rw[jS (by omega)];exact vL⟩)
        Nr
        (λhd=>by
         have hdp:dp=I:=by
          have hd':row.deep=I:=hd
          simpa [hd'] using hdd
         obtain⟨n1,l1⟩:=e1.deep hdp;obtain⟨n2,R4⟩:=a12 hd;refine⟨?_,λt H=>?_⟩
         ·have abN:∀y∈G.map eK,y∉G1.map eK:=by
           intro y hy hy1;obtain⟨t,H,rfl⟩:=cm.1 hy;obtain⟨YV,BZ,e8⟩:=cm.1 hy1;have u1:=(R4 t H).2;have u2:=(l1 YV BZ).1.1;rw[e8,u1]at u2;cases u2
          have hg1:g∉G1.map eK:=by
           intro hy1;obtain⟨YV,BZ,e8⟩:=cm.1 hy1;have u2:=(l1 YV BZ).1.1;rw[e8,a3]at u2;cases u2
          rw[eG]at n2 abN;exact NR n2 n1 abN hg1
         ·rcases Nr t H with Cs|Cs
          ·rcases sR t H with Is|Is
           ·have:=(R4 t Is).1;rcases CN t Is with JS|JS
            ·refine⟨this.1,this.2.1,?_⟩;have kU:t.1≠g:=λe9=>by
              have:=(cl.1 n2).1;exact this (by rw[<- e9];exact ey Is)
             exact⟨by rw[gm];exact this.2.2.1,λj=>by rw[World.frozen?_of_block (w:=w) (W.block _ kU)];exact this.2.2.2 j⟩
            ·exact⟨this.1,this.2.1,by rw[gm];exact this.2.2.1,λj=>by rw[World.frozen?_of_block (w:=w) (W.block _ JS.2)];exact this.2.2.2 j⟩
           ·have JS:=(l1 t Is).1;have kU:t.1≠g:=λe=>by have:=JS.1;rw[e,a3]at this;cases this
            exact⟨by rw[o2 _ (by rw[JS.1];simp)];exact JS.1,by rw[nI];exact JS.2.1,by rw[gm];exact JS.2.2.1,λj=>by rw[World.frozen?_of_block (w:=w) (W.block _ kU)];exact JS.2.2.2 j⟩
          ·exact Cs.1)
        (by rw[v8,e1.sl];exact rR)
       have e6:(s1.cQ r).setRow r {row with es:=row.es.set i (mi e o ds) }=s1.setRow r {row with es:=row.es.set i (mi e o ds) }:=by
        have:ru (ru s1.rw r) r=ru s1.rw r:=by simp[ru,nz]
        simp[St.setRow,St.cQ,this]
       rw[e6]at h6;refine h MK f _ h6 ⟨?_,λ_ _=>by rw[Y,b2,e1.β],λy=>by have:=L y;rw[nI]at this;exact aL (e1.h y) this,.skip⟩;simp only[eY,H];exact mG
     ·cases Q
    ·cases Q
   ·cases Q
  ·cases Q
 ·cases Q
end
end
section
open Go.RowKit
section
variable {P:Program} {γ:Gh} {h0:Nat->Nat} {io:M Nat} {w0:World} {s s':St} {f:Fm} {w:World} {N:Nat} {ty:TypeId} {pos:String} {aft:Array Edge} {gd:u (Nat×Bool)} {K:Fm->World->Prop}
 {cf:Nat->M A->u (M A×M A)} {mf:Nat->Bool->M D->Int->u (M D×Int)}
theorem CQ(R:Inv γ h0 io w0 s f w){c:C}{a:Value}(r:CR γ w c a){k:Nat}{fl:Bool}{es:M (M D)}{dp:Bool}{X:St}(i:m_ s k fl c=Z (es,dp,X)) :
  ∃p G l,Inv p h0 io w0 X f w/\fQ w es l G/\Emb γ w dp G p/\(∀e∈es,e.length=k)/\(fl=I->flat es)/\((es.length=0/\∃A c,a=.slice A 0 c)\/∃b o c,a=.slice (Z ⟨b,o,O⟩) es.length c/\jo w b o l):=by
 cases c with
 |d x=>
  cases x with
  |list k' qu ju=>
   simp only[m_]at i
   split at i
   ·rename_i V;obtain⟨rfl,rfl⟩:=V;simp only[aa,aA]at i;obtain⟨rfl,rfl,rfl⟩:=i;simp only[CR,Rp]at r;obtain⟨F,⟨A,n,c,H,U,q3,q4,y,q6,Q,m⟩,lT⟩:=r;rcases m with ⟨m,rfl⟩|⟨h1,b,o,S,G,rfl,rfl,a2,a3⟩
    ·have:ju=[]:=ck (by omega);subst this;exact⟨γ,[],[],R,by simp[fQ],⟨rfl,rfl,λ_=>au _,λ_ h=>by simp at h,λ_=>by simp,λ_ h=>⟨h,rfl⟩,λ_=>.inl rfl⟩,Q,y,.inl ⟨rfl,A,c,by rw[H,m]⟩⟩
    ·refine⟨γ,G,S,R,a2,⟨rfl,rfl,λ_=>au _,λv t=>.inl (lT v (by simp[t])),λj=>?_,λ_ h=>⟨h,rfl⟩,λ_=>.inl rfl⟩,Q,y,.inr ⟨b,o,c,by rw[H,U],a3⟩⟩;have:G=[]:=a2.plain (y j);subst this;simp
   ·cases i
  |_=>simp[m_]at i
 |nil k' qu=>
  simp only[m_,aa,aA]at i;obtain⟨rfl,rfl,rfl⟩:=i;simp only[CR]at r;exact⟨γ,[],[],R,by simp[fQ],⟨rfl,rfl,λ_=>au _,λ_ h=>by simp at h,λ_=>by simp,λ_ h=>⟨h,rfl⟩,λ_=>.inl rfl⟩,λ_ h=>by simp at h,λ_=>km,.inl ⟨rfl,O,0,r.1⟩⟩
 |ref q=>
  simp only[m_]at i
  split at i
  ·rename_i x hx
   split at i
   ·rename_i V;obtain⟨rfl,rfl⟩:=V;simp only[aa,aA]at i;obtain⟨rfl,rfl,rfl⟩:=i;obtain⟨p,G1,i1,b1,B,m1,Y,T,d1,o1,k1,W⟩:=R.take hx;simp only[CR]at r;simp only[Rp]at Y;obtain⟨A,n,c,H,U,q3,q4,y,q6,Q,m⟩:=Y;have L:∀g,γ.ω g=.fP->p.ω g=.fP/\p.h g=γ.h g:=λg hg=>by
     have:=k1 g (by rw[hg];simp);exact⟨this.1.trans hg,this.2⟩
    rcases m with ⟨m,rfl⟩|⟨h1,b,o,S,G,rfl,rfl,a2,a3⟩
    ·have:x.es=[]:=ck (by omega);rw[this];exact⟨p,[],[],i1,by simp[fQ],⟨b1,B,m1,λ_ h=>by simp at h,λ_=>by simp,L,W⟩,λ_ h=>by simp at h,λ_=>km,.inl ⟨rfl,A,c,by rw[r.1,H,m]⟩⟩
    ·refine⟨p,G,S,i1,a2,⟨b1,B,m1,λv t=>?_,λj=>?_,L,W⟩,Q,y,.inr ⟨b,o,c,by rw[r.1,H,U],a3⟩⟩
     ·cases hd:(x.deep && !x.fz) with
      |true=>exact .inr ((d1 hd).2 v (by simp[t]))
      |false=>exact .inl (T hd v (by simp[t]))
     ·rw[dr]at j;rcases j with j|j
      ·obtain⟨n1,l1⟩:=d1 j;refine⟨(cl.1 n1).2,λv t=>⟨l1 v (by simp[t]),?_⟩⟩;rcases o1 v (by simp[t]) with h|h
       ·rw[h];simp
       ·simp[h]at j
      ·have:G=[]:=a2.plain (y j);subst this;simp
   ·cases i
  ·cases i
 |_=>simp[m_]at i
theorem Hg{a:Type}(l:M (Nat×a))(r:Nat):ru (ru l r) r=ru l r:=by simp[ru,nz]
theorem jC(s:St)(r:Nat)(x:Row):(s.cQ r).newRow r x=s.newRow r x:=by
 simp[St.newRow,St.setRow,St.cQ,St.kill,Hg]
theorem ah7(hi:Inv γ h0 io w0 s f w){T p:TypeId}{k by_:Nat}{fl:Bool}{x y:Operand}{a b:KX}{d:Nat}{i:TypeInfo}{l:Value}(hU:P.underlying T=Z (.slice p))(hI:P.info? p=Z i)(hz:i.zero=Z l)(mR:i.size=k)(hby:i.bytes=by_)(JY:l.cells.size=k)(uV:0 < k)
  (hx:kX N x a=I) (hy:kX N y b=I) (F:ky cf mf s (Z d) (.app k by_ fl a b)=Z s') (h:∀C f' R,Inv C h0 io w0 s' f' R->Tr (Z d) (eY s (Z d) (.app k by_ fl a b)) γ w C R f f'->K f' R) :
  wo P N ⟨Z d,.call {callee:=.builtin .append,args:=#[x,y],argTypes:=#[T,T] },ty,pos,aft,gd⟩ f w K:=by
 have qM:=cy hi hx;have YA:=cy hi hy;simp only[ky]at F
 split at F
 ·cases F
 ·rename_i es dp s1 sV;obtain⟨nC,G2,q,i1,r2,Q,hk2,hf2,V⟩:=CQ hi YA sV;have RJ:q.length=es.length * k:=fQ.length es r2 hk2;have zN:=r2.rW;have mu:∀{v' R},(Builtin.append_ #[T,T] ty #[(fr f N).eval x,(fr f N).eval y]).run P w=.ok v' R->(execOp (fr f N).eval ⟨Z d,.call {callee:=.builtin .append,args:=#[x,y],argTypes:=#[T,T] },ty,pos,aft,gd⟩).run P w=.ok (.value v') R:=by
   intro v' R hr;simp[execOp,resolve,invoke,builtin,hr]
  split at F
  ·
   rename_i k' qu Ln;rw[Ln]at qM;simp only[CR]at qM
   split at F
   ·rename_i hc;obtain⟨rfl,rfl,c3,c4⟩:=hc;simp only[aa]at F;subst F;obtain⟨v',R,hr,VE⟩:=Jt (P:=P) (w:=w) (ty:=ty) (k:=k') (by_:=by_) hU hI hz mR hby JY uV (v:=(fr f N).eval x) (n:=0) (xs:=[]) (by simp) (.inl ⟨qM.1,rfl⟩) (u:=(fr f N).eval y) (m:=es.length) RJ V zN (by omega) (by simpa using c3);refine vg (mu hr) ?_;rcases VE with ⟨Y,rfl,rfl⟩|⟨g,U,T',L,Y,_⟩|⟨U,cs,rfl,h2,h3,h4,W,h6,h7,h8⟩
    ·have Bw:es=[]:=ck Y;subst Bw;have hR:oW nC.h R ⟨[],k',qu,dp,I,J⟩ ((fr f N).eval x) []:=⟨O,0,0,qM.1,rfl,au _,by simp[maxLen],uV,λ_ h=>by simp at h,λ_=>km,.inl ⟨rfl,rfl,rfl⟩⟩
     obtain⟨C,S,j2,j3,j4,_⟩:=i1.ux (r:=d) hR (by simp) (λ_ h=>by simp at h);exact h C _ R (S.put d (.ref d) _ (by simp only[CR,j2];exact⟨trivial,O,0,0,qM.1⟩)) ⟨wK.refl _ _ _,λx _=>by rw[j3,Q.β],λg=>by rw[j4];exact Q.h g,.put⟩
    ·rw[qM.1]at Y;cases Y
    ·simp only[bD,ay]at h2 h8 ⊢;obtain⟨C,S,j2,j3,j4⟩:=i1.newRow W h6 (n:=es.length) (c:=U) h4 r2 h8 rfl h2 h3 h7 uV hk2 hf2 Q d;exact h C _ R (S.put d (.ref d) _ (by simp only[CR,j2];exact⟨trivial,_,_,_,rfl⟩)) ⟨kJ hi W _,λx _=>by rw[j3,Q.β],λg=>aL (Q.h g) (j4 g),.put⟩
   ·cases F
  ·rename_i r Ln;rw[Ln]at qM;simp only[CR]at qM
   split at F
   ·rename_i row hl
    split at F
    ·rename_i hc;obtain⟨rfl,rfl,qk,c3,c4⟩:=hc;simp only[aa]at F;subst F;obtain⟨lZ,A,n,c,i2,b2,v8,X,o2,l2,q1,q2,q3,q4,q5,q6,q7,q8⟩:=i1.tu hl;rw[Q.sl]at q1;have pj:(fr f N).eval x=.slice A n c:=qM.1.trans q1;have hrX:r∈eY s (Z d) (.app row.k by_ row.fl a b):=by simp[eY,Ln,rowsOf]
     have Bv:∀e∈row.es++es,e.length=row.k:=λe F=>by
      rcases aS.1 F with F|F
      ·exact q6 e F
      ·exact hk2 e F
     have Zv:row.fl=I->flat (row.es++es):=λhf e F=>by
      rcases aS.1 F with F|F
      ·exact q7 hf e F
      ·exact hf2 hf e F
     have NI:∀g,yd nC w g->yd lZ w g:=λg hg=>⟨by rw[o2 _ (by rw[hg.1];simp)];exact hg.1,by rw[X];exact hg.2.1,hg.2.2⟩
     rcases q8 with ⟨rfl,rfl⟩|⟨g,o,xs,G,rfl,a2,a3,a4,a5,a6,a7,a8,a9,tM,CN,a12⟩
     ·
      have Ix:n=0:=by omega
      subst Ix;have hre:row.es=[]:=ck q2.symm;obtain⟨v',R,hr,VE⟩:=Jt (P:=P) (w:=w) (ty:=ty) (k:=row.k) (by_:=by_) hU hI hz mR hby JY uV (v:=(fr f N).eval x) (n:=0) (xs:=[]) (by simp) (.inl ⟨pj,rfl⟩) (u:=(fr f N).eval y) (m:=es.length) RJ V zN (by omega) (by rw[hre]at c3;simpa using c3);refine vg (mu hr) ?_;rcases VE with ⟨Y,rfl,rfl⟩|⟨g,U,T',L,Y,_⟩|⟨U,cs,rfl,h2,h3,h4,W,h6,h7,h8⟩
      ·have Bw:es=[]:=ck Y;subst Bw;have hR:oW lZ.h R {row with es:=row.es++[],deep:=row.deep && dp } ((fr f N).eval x) []:=⟨O,0,0,pj,by simp[hre],au _,by simp[maxLen],q5,Bv,Zv,.inl ⟨rfl,rfl,rfl⟩⟩
       obtain⟨C,S,j2,j3,j4,_⟩:=i2.ux (r:=r) hR (by simp) (λ_ h=>by simp at h);rw[jC]at S;exact h C _ R (S.put d (.ref r) _ (by simp only[CR,j2];exact⟨trivial,O,0,0,pj⟩)) ⟨wK.refl _ _ _,λx _=>by rw[j3,b2,Q.β],λg=>by rw[j4,X];exact Q.h g,.put⟩
      ·rw[pj]at Y;cases Y
      ·simp only[bD,ay]at h2 h8 ⊢;have i3:=i2.Mv W;have jd:jo R w.heap.size 0 q:=by
        intro j u V;rw[bD,h6.cell];rw[<- h8,da]at V
        split at V
        ·exact V
        ·cases V
       have iM:=fQ.lt es r2;obtain⟨C,S,j2,j3,j4,_⟩:=i3.pE (r:=r) (x:={row with es:=row.es++es,deep:=row.deep && dp }) (n:=es.length) (c:=U) (g:=w.heap.size) (o:=0) (by simp[hre]) h2 h3 q5 Bv Zv (by omega) (.inr (i2.rk (au _))) (.inl hi.size) ⟨by omega,W.FP _ (au _)⟩ (by simp only[hre,ay];exact r2.Mv W) jd (by rw[i2.gy _ (au _)];omega) (λ_=>i2.gy _ (au _)) (λ_=>⟨rfl,p,cs,h6,h7⟩)
        (λt B=>by
         rcases Q.some_ t B with H|H
         ·exact .inl (by rw[X];exact H)
         ·have:=NI _ H;exact .inr ⟨⟨this.1,this.2.1,(kJ hi W (λ_=>False)).gW _ this.2.2⟩,by have:=iM t B;omega⟩)
        (λhd=>by
         have hdp:dp=I:=by
          have hd':(row.deep && dp)=I:=hd;simp at hd';exact hd'.2
         obtain⟨n1,l1⟩:=Q.deep hdp;refine⟨cl.2 ⟨λhm=>?_,n1⟩,λt B=>?_⟩
         ·obtain⟨t,B,e⟩:=cm.1 hm;have:=iM t B;omega
         ·have:=NI _ (l1 t B).1;exact⟨this.1,this.2.1,(kJ hi W (λ_=>False)).gW _ this.2.2⟩)
       rw[jC]at S;exact h C _ R (S.put d (.ref r) _ (by simp only[CR,j2];exact⟨trivial,_,_,_,rfl⟩)) ⟨kJ hi W _,λx _=>by rw[j3,b2,Q.β],λg=>by have:=j4 g;rw[X]at this;exact aL (Q.h g) this,.put⟩
     ·obtain⟨rfl,T',vs,hB,vL⟩:=tM qk;have B2:xs.length=n * row.k:=by rw[fQ.length _ a6 q6,q2]
      have YC:vs.take (n * row.k)=xs:=by
       rw[<- B2]
       apply fi
       intro j;rw[da];by_cases hj:j < xs.length
       ·rw[if_pos hj];have h7:=a7 j xs[j] (by simp[hj]);rw[bD,hB.cell]at h7;rw[h7];simp[hj]
       ·rw[if_neg hj,oD (by omega)]
      have anJ:=fQ.lt _ a6;have ag6:=fQ.lt _ r2;obtain⟨v',R,hr,VE⟩:=Jt (P:=P) (w:=w) (ty:=ty) (k:=row.k) (by_:=by_) hU hI hz mR hby JY uV (v:=(fr f N).eval x) (n:=n) (xs:=xs) B2 (.inr ⟨g,c,T',vs,pj,hB,q3,q4,vL,YC⟩) (u:=(fr f N).eval y) (m:=es.length) RJ V zN (by omega) (by rw[q2];exact c3);have GX:γ.ω g=.row r:=by
       rcases Q.own g with h|h|h
       ·rw[<- h];exact a3
       ·rw[a3]at h;cases h
       ·rw[a3]at h;cases h
      have ZE:fQ w (row.es++es) (xs++q) (G++G2):=fQ.append _ a6 r2;have wZ:∀t∈G++G2,t.2<=lZ.h t.1\/(yd lZ w t.1/\t.1≠g):=by
       intro t B;rcases aS.1 B with B|B
       ·rw[X];exact CN t B
       ·rcases Q.some_ t B with H|H
        ·exact .inl (by rw[X];exact H)
        ·exact .inr ⟨NI _ H,λe=>by have:=H.1;rw[e,a3]at this;cases this⟩
      have yq:(row.deep && dp)=I->(g::(G++G2).map eK).Nodup/\∀t∈G++G2,yd lZ w t.1:=by
       intro hd;rw[af]at hd;obtain⟨n1,l1⟩:=Q.deep hd.2;obtain⟨n2,R4⟩:=a12 hd.1;refine⟨?_,λt B=>?_⟩
       ·rw[bR,<- aq,bG];refine⟨n2,n1,?_⟩;intro y hy y' JX e;subst e;obtain⟨YV,BZ,e8⟩:=cm.1 JX;have u2:=(l1 YV BZ).1.1;rcases aP.1 hy with rfl|hy
        ·rw[e8,a3]at u2;cases u2
        ·obtain⟨t,B,rfl⟩:=cm.1 hy;rw[e8,(R4 t B).2]at u2;cases u2
       ·rcases aS.1 B with B|B
        ·exact (R4 t B).1
        ·exact NI _ (l1 t B).1
      refine vg (mu hr) ?_;rcases VE with ⟨Y,rfl,rfl⟩|⟨g',U,J7,L,Y,h2,h3,h4,W,h6,h7,rfl⟩|⟨U,cs,rfl,h2,h3,h4,W,h6,h7,h8⟩
      ·have Bw:es=[]:=ck Y;subst Bw;simp only[fQ]at r2;obtain⟨rfl,rfl⟩:=r2;simp only[aQ]at ZE wZ yq Bv Zv;obtain⟨C,S,j2,j3,j4,_⟩:=i2.pE (r:=r) (x:={row with es:=row.es++[],deep:=row.deep && dp }) (n:=n) (c:=c) (g:=g) (o:=0) (by simp[q2]) q3 q4 q5 (by simpa using Bv) (by simpa using Zv) a2 (.inl a4) (i2.own g (by rw[a4];simp)).2 a5 (by simpa using ZE) a7 (by rw[X];exact a8) (λhf=>by rw[X];exact a9 hf) (λ_=>⟨rfl,T',vs,hB,vL⟩) wZ yq;rw[jC]at S;exact h C _ R (S.put d (.ref r) _ (by simp only[CR,j2,pj];exact⟨trivial,_,_,_,rfl⟩)) ⟨wK.refl _ _ _,λx _=>by rw[j3,b2,Q.β],λg=>by have:=j4 g;rw[X]at this;exact aL (Q.h g) this,.put⟩
      ·rw[pj]at Y;simp only[Value.slice.injEq,aa,Addr.mk.injEq,and_true]at Y;obtain⟨rfl,_,rfl⟩:=Y;subst h3;have GO:L=vs:=by
        unfold kQ at h2 hB;rw[hB]at h2;simp only[aa,Obj.cells.injEq,and_true]at h2;have:=h2.1
        simpa using this.symm
       subst GO;have lC:=FY.gM w g (cF L (n * row.k) q).toArray J7;have Au:n * row.k+q.length<=L.length:=by rw[RJ,vL,<- lj];exact ee _ h4
       have Nj:∀j,j < n * row.k->(gM w g (.cells (cF L (n * row.k) q).toArray J7 (0,0))).cell? ⟨g,j,O⟩=w.cell? ⟨g,j,O⟩:=by
        intro j hj;rw[(hB.iw J7 (cF L (n * row.k) q)).cell,hB.cell];unfold cF;rw[bE,dW (by simp;omega),da,if_pos hj]
       have i3:=i2.OQ (mC i2 lC (M:=λo=>o=.fP) a4 (λj hj=>Nj j (by rw[X]at hj;omega))) (by simp) (λb B=>by cases B) (λr hr=>by cases hr);have mG:wK γ (λo=>∃i∈eY s (Z d) (.app row.k by_ row.fl a b),o=.box i\/o=.row i) w _:=mC hi lC ⟨r,hrX,.inr GX⟩ (λj hj=>Nj j (by have:=Q.h g;omega));have adn:fQ (gM w g (.cells (cF L (n * row.k) q).toArray J7 (0,0))) (row.es++es) (xs++q) (G++G2):=by
        refine ZE.eB _ λt B j hj=>?_;by_cases h8:t.1=g
        ·rw[h8];rcases wZ t B with H|H
         ·rw[h8,X]at H;exact Nj j (by omega)
         ·exact absurd h8 H.2
        ·exact World.cell?_of_block (w:=w) (lC.block _ h8)
       have jd:jo (gM w g (.cells (cF L (n * row.k) q).toArray J7 (0,0))) g 0 (xs++q):=by
        have H:=(hB.iw J7 (cF L (n * row.k) q)).SN;intro j u V;refine H j u ?_;have e5:cF L (n * row.k) q=(xs++q)++L.drop (n * row.k+q.length):=by unfold cF;rw[YC]
        rw[e5,dW (bm.1 V).1];exact V
       have BQ:∀y,oX w y->oX (gM w g (.cells (cF L (n * row.k) q).toArray J7 (0,0))) y:=mG.gW;obtain⟨C,S,j2,j3,j4,_⟩:=i3.pE (r:=r) (x:={row with es:=row.es++es,deep:=row.deep && dp }) (n:=n+es.length) (c:=c) (g:=g) (o:=0) (by simp[q2]) h4 q4 q5 Bv Zv (by rw[gm];exact a2) (.inl a4) (i2.own g (by rw[a4];simp)).2 ⟨by rw[gm];omega,lC.fz⟩ adn jd (by rw[X];exact aL a8 (Nat.add_le_add_left (ee row.k (show n<=n+es.length by omega)) 0)) (λhf=>by rw[X];exact a9 hf) (λ_=>⟨rfl,J7,_,hB.iw J7 _,by rw[jS Au];exact vL⟩)
        (λt B=>by
         rcases wZ t B with H|H
         ·exact .inl H
         ·exact .inr ⟨⟨H.1.1,H.1.2.1,BQ _ H.1.2.2⟩,H.2⟩)
        (λhd=>⟨(yq hd).1,λt B=>by have:=(yq hd).2 t B;exact⟨this.1,this.2.1,BQ _ this.2.2⟩⟩)
       rw[jC]at S;exact h C _ _ (S.put d (.ref r) _ (by simp only[CR,j2];exact⟨trivial,_,_,_,rfl⟩)) ⟨mG,λx _=>by rw[j3,b2,Q.β],λg=>by have:=j4 g;rw[X]at this;exact aL (Q.h g) this,.put⟩
      ·have i3:=i2.Mv W;have jd:jo R w.heap.size 0 (xs++q):=by
        intro j u V;rw[bD,h6.cell];rw[<- h8,da]at V
        split at V
        ·exact V
        ·cases V
       have iM:∀t∈G++G2,t.1 < w.heap.size:=fQ.lt _ ZE;have BQ:=(kJ hi W (λ_=>False)).gW;obtain⟨C,S,j2,j3,j4,_⟩:=i3.pE (r:=r) (x:={row with es:=row.es++es,deep:=row.deep && dp }) (n:=n+es.length) (c:=U) (g:=w.heap.size) (o:=0) (by simp[q2]) h2 h3 q5 Bv Zv (by omega) (.inr (i2.rk (au _))) (.inl hi.size) ⟨by omega,W.FP _ (au _)⟩ (ZE.Mv W) jd (by rw[i2.gy _ (au _)];omega) (λ_=>i2.gy _ (au _)) (λ_=>⟨rfl,p,cs,h6,h7⟩)
        (λt B=>by
         rcases wZ t B with H|H
         ·exact .inl H
         ·exact .inr ⟨⟨H.1.1,H.1.2.1,BQ _ H.1.2.2⟩,by have:=iM t B;omega⟩)
        (λhd=>by
         refine⟨cl.2 ⟨λhm=>?_,(cl.1 (yq hd).1).2⟩,λt B=>by have:=(yq hd).2 t B;exact⟨this.1,this.2.1,BQ _ this.2.2⟩⟩;obtain⟨t,B,e⟩:=cm.1 hm;have:=iM t B;omega)
       rw[jC]at S;exact h C _ R (S.put d (.ref r) _ (by simp only[CR,j2];exact⟨trivial,_,_,_,rfl⟩)) ⟨kJ hi W _,λx _=>by rw[j3,b2,Q.β],λg=>by have:=j4 g;rw[X]at this;exact aL (Q.h g) this,.put⟩
    ·cases F
   ·cases F
  ·cases F
theorem aia(F:Inv γ h0 io w0 s f w){T p:TypeId}{k:Nat}{x:Operand}{lo uU:u Operand}{a:KX}{b c:u KX}{d:Nat}(hU:P.underlying T=Z (.slice p))(hz:nK P p=Z k)
  (hx:kX N x a=I) (MD:El N lo b=I) (R:El N uU c=I) (q:ky cf mf s (Z d) (.cut k a b c)=Z s') (h:∀t f' V,Inv t h0 io w0 s' f' V->Tr (Z d) (eY s (Z d) (.cut k a b c)) γ w t V f f'->K f' V) :
  wo P N ⟨Z d,.slice T x lo uU O,ty,pos,aft,gd⟩ f w K:=by
 have C:=cy F hx;simp only[ky]at q
 split at q
 ·rename_i k' fl Ln;rw[Ln]at C;simp only[CR]at C
  split at q
  ·rename_i l m hl hu
   split at q
   ·rename_i hc;obtain⟨rfl,rfl,rfl⟩:=hc;simp only[aa]at q;subst q;have hr:=E8 (w:=w) (dst:=Z d) (ty:=ty) (pos:=pos) (aft:=aft) (gd:=gd) hU (λw=>run_sizeOf hz w) C.1 (ox F MD hl) (ox F R hu) (au _) (au _);refine vg hr ?_;exact h γ _ w (F.put d (.nil k' fl) _ (by simp only[CR];simp[C.2])) ⟨wK.refl _ _ _,λ_ _=>rfl,λ_=>au _,.put⟩
   ·cases q
  ·cases q
 ·rename_i r Ln;rw[Ln]at C;simp only[CR]at C
  split at q
  ·rename_i row hl
   split at q
   ·rename_i l m S ag0
    split at q
    ·rename_i hc;obtain⟨rfl,c1,c2,Av⟩:=hc;simp only[aa]at q;subst q;obtain⟨lZ,A,n,c,i2,b2,v8,L,o2,l2,q1,q2,q3,q4,q5,q6,q7,q8⟩:=F.tu hl;have pj:(fr f N).eval x=.slice A n c:=C.1.trans q1;have hr:=E8 (w:=w) (dst:=Z d) (ty:=ty) (pos:=pos) (aft:=aft) (gd:=gd) hU (λw=>run_sizeOf hz w) pj (ox F MD S) (by rw[q2];exact ox F R ag0) c1 (by omega);have B:((row.es.take m).drop l).length=m - l:=by simp;omega
     have sR:∀e∈(row.es.take m).drop l,e∈row.es:=λe q=>cz (iD q);have Bv:∀e∈(row.es.take m).drop l,e.length=row.k:=λe q=>q6 e (sR e q);have Zv:row.fl=I->flat ((row.es.take m).drop l):=λhf e q=>q7 hf e (sR e q);refine vg hr ?_;rcases q8 with ⟨rfl,rfl⟩|⟨g,o,xs,G,rfl,a2,a3,a4,a5,a6,a7,a8,a9,tM,CN,a12⟩
     ·have hu0:m=0:=by omega
      subst hu0;have Nk:l=0:=by omega
      subst Nk;have hR:oW lZ.h w {row with es:=(row.es.take 0).drop 0,app:=row.app && b.isNone } (.slice O 0 0) []:=⟨O,0,0,rfl,by simp,au _,by simp[maxLen],q5,Bv,Zv,.inl ⟨rfl,rfl,rfl⟩⟩
      obtain⟨t,Q,j2,Y,X,_⟩:=i2.ux (r:=r) hR (by simp) (λ_ h=>by simp at h);rw[jC]at Q;exact h t _ w (Q.put d (.ref r) _ (by simp only[CR,j2];simp)) ⟨wK.refl _ _ _,λx _=>by rw[Y,b2],λg=>by rw[X,L];exact au _,.put⟩
     ·rw[<- bh m row.es]at a6;obtain⟨v1,v2,F1,F2,rfl,rfl,k1,_⟩:=fQ.gE _ a6;rw[<- bh l (row.es.take m)]at k1;obtain⟨u1,u2,G1,G2,rfl,rfl,m1,m2⟩:=fQ.gE _ k1;have hu1:u1.length=l * row.k:=by
       rw[fQ.length _ m1 (λe q=>q6 e (cz (cz q)))];simp only[bj];rw[ei (by rw[ei (by omega)];exact c1)]
      have jd:jo w g (if c=l then o else o+l * row.k) u2:=by
       intro j y hy;split
       ·rename_i qL;have:u2.length=0:=by
         rw[fQ.length _ m2 Bv,B,show m - l=0 by omega,Nat.zero_mul]
        have:=(bm.1 hy).1;omega
       ·have:=a7 (l * row.k+j) y (by
         rw[bE,rn (by omega),hu1,ur,dW (bm.1 hy).1];exact hy)
        rw[show o+(l * row.k+j)=o+l * row.k+j by omega]at this;exact this
      have U:∀v∈G2,v∈G1++G2++F2:=λv H=>by simp[H]
      obtain⟨t,Q,j2,Y,X,_⟩:=i2.pE (r:=r) (x:={row with es:=(row.es.take m).drop l,app:=row.app && b.isNone }) (n:=m - l) (c:=c - l) (g:=g) (o:=if c=l then o else o+l * row.k) B.symm (by omega) (by omega) q5 Bv Zv a2 (.inl a4) (i2.own g (by rw[a4];simp)).2 a5 m2 jd (by rw[L,a9 Av];omega) (λ_=>by rw[L];exact a9 Av)
       (λW=>by
        simp only[af,rF]at W;have Vv:l=0:=by
         have:=S;rw[W.2]at this;simp only[sa,aa]at this;exact this.symm
        obtain⟨p1,p2⟩:=tM W.1;subst Vv;refine⟨by simp[p1],?_⟩
        simpa using p2)
       (λv H=>by rw[L];exact CN v (U v H))
       (λhd=>by
        obtain⟨d1,d2⟩:=a12 hd;refine⟨?_,λv H=>(d2 v (U v H)).1⟩;rw[cl]at d1 ⊢;refine⟨λhm=>d1.1 ?_,?_⟩
        ·obtain⟨v,H,e⟩:=cm.1 hm;exact cm.2 ⟨v,U v H,e⟩
        ·have:=d1.2;rw[bR,bR,bG,bG]at this;exact this.1.2.1)
      rw[jC]at Q;have hv:(Value.slice (if c=l then Z ⟨g,o,O⟩ else (Z (⟨g,o,O⟩:Addr)).map (λi=>i.add (l * row.k))) (m - l) (c - l))=.slice (Z ⟨g,if c=l then o else o+l * row.k,O⟩) (m - l) (c - l):=by
       split<;>simp[pz]
      rw[hv];exact h t _ w (Q.put d (.ref r) _ (by simp only[CR,j2];exact⟨trivial,_,_,_,rfl⟩)) ⟨wK.refl _ _ _,λx _=>by rw[Y,b2],λg=>by have:=X g;rw[L]at this;exact this,.put⟩
    ·cases q
   ·cases q
  ·cases q
 ·cases q
end
end
section
open Go.RowKit
def JP(h:Nat->Nat)(w:World):RV->Value->M Nat->Prop
 | .d x,v,F=>F=[]/\∃G,Rp w x v G/\eM h G
 | .row r,v,F=>oW h w r v F/\F.Nodup
def jr(h:Nat->Nat)(w:World):M RV->M Value->M Nat->Prop
 |[],a,F=>a=[]/\F=[]
 |r::rs,a,F=>∃v b d c,a=v::b/\F=d++c/\JP h w r v d/\jr h w rs b c
def AR(h:Nat->Nat)(w:World):A->Value->M Nat->Prop
 | .val b cs,v,F=>∃a,jr h w cs a F/\(b=I->v=.agg a.toArray)/\(b=J->a=[v])
 | .box cs,v,F=>∃g T a c,v=.pointer (Z ⟨g,0,O⟩)/\kQ w g T a/\h g=0/\F=g::c/\jr h w cs a c
def ml(h:Nat->Nat)(w:World):M A->M Value->M Nat->Prop
 |[],b,F=>b=[]/\F=[]
 |a::as,b,F=>∃v c e d,b=v::c/\F=e++d/\AR h w a v e/\ml h w as c d
structure HM (h:Nat->Nat) (F:List Nat) (w w':World) (h':Nat->Nat):Prop where
 os:w'.os=w.os
 tape:w'.tape=w.tape
 output:w'.output=w.output
 size:w.heap.size<=w'.heap.size
 block:∀g,g < w.heap.size->g∉F->w'.heap[g]?=w.heap[g]?
 cell:∀g j,g < w.heap.size->j < h g->w'.cell? ⟨g,j,none⟩=w.cell? ⟨g,j,none⟩
 mono:∀g,g < w.heap.size->h g<=h' g
 hold:∀g,g < w.heap.size->g∉F->h' g=h g
 gy:∀g,w'.heap.size<=g->h' g=0
 gW:∀g,oX w g->oX w' g
def gq:M A->M Value->M Value
 | .box _::as,v::a=>v::gq as a
 | .val _ _::as,_::a=>gq as a
 |_,_=>[]
def YQ(a:M Value)(v:Value):Prop:=a=[v]\/(a.length≠1/\v=.tuple a.toArray)
def CF:String:= "internal/strconv.uint64pow10"
def TJ(P:Program)(w:World)(F:M Nat):Prop:=∀g,P.globalNamed CF=Z g->g < w.heap.size/\g∉F/\Lib.TabIs P w CF .u64 Lib.pow10Tab
theorem TJ.step{P:Program}{w d:World}{F j:M Nat}(h:TJ P w F)(m:w.heap.size<=d.heap.size)(e:∀g,g < w.heap.size->g∉F->d.heap[g]?=w.heap[g]?)(l:∀g∈j,w.heap.size<=g\/g∈F):TJ P d j:=by
 intro g f;obtain⟨a,b,c⟩:=h g f;refine⟨by omega,λk=>?_,?_⟩
 ·rcases l g k with i|i
  ·omega
  ·exact b i
 ·unfold Lib.TabIs World.var? at c ⊢;rw[f]at c ⊢;simp only[dS]at c ⊢;rw[e g a b];exact c
def T5(P:Program)(g:FuncId)(as j outs:M A)(w:World)(h:Nat->Nat)(b:M Value)(F:M Nat):Prop:=
 ml h w as b F->F.Nodup->(∀g∈F,g < w.heap.size)->(∀g,w.heap.size<=g->h g=0)->
  Calls P g b.toArray w λe a=>∃v i f d c,e=.returned v/\YQ i v/\ml c a j i f/\ml c a outs (gq as b) d/\(f++d).Nodup/\(∀g∈f++d,(w.heap.size<=g\/g∈F)/\g < a.heap.size)/\HM h F w a c
def px(P:Program)(g:FuncId)(as b outs:M A):Prop:=
 ∀(w:World) (h:Nat->Nat) (a:M Value) (F:M Nat),TJ P w F->T5 P g as b outs w h a F
def HL(a:World)(b:M Nat)(P:Program)(g:FuncId)(as d outs:M A):Prop:=
 ∀(w:World) (h:Nat->Nat) (c:M Value) (F:M Nat),a.heap.size<=w.heap.size->(∀g,g < a.heap.size->g∉b->w.heap[g]?=a.heap[g]?)->(∀g∈F,a.heap.size<=g\/g∈b)->T5 P g as d outs w h c F
theorem px.at_{P:Program}{g:FuncId}{as b outs:M A}{a:World}{c:M Nat}(h:px P g as b outs)(e:TJ P a c):HL a c P g as b outs:=
 λw k d F j i f=>h w k d F (e.step j i f)
def nB(w:World):M D->M Value->M Fp->Prop
 |[],a,b=>a=[]/\b=[]
 |d::f,a,b=>∃v c F e,a=v::c/\b=F::e/\Rp w d v F/\nB w f c e
def T8(P:Program)(l:FuncId)(k:Bool)(i:M D)(q:Int)(f:M D)(c:Int)(w:World)(h:Nat->Nat)(v:Value)(b:M Value)(a:M Fp):Prop:=
 nB w i b a->(k=I->v=.agg b.toArray)->(k=J->b=[v])->IntKind.i64.wrap q=q->(a.flatten.map eK).Nodup->(∀G∈a,∀j∈G,h j.1=0/\oX w j.1)->(∀g,w.heap.size<=g->h g=0)->
  Calls P l #[v,.int .i64 q] w λe d=>e=.returned (.int .i64 c)/\IntKind.i64.wrap c=c/\nB d f b a/\f.map D.plain=i.map D.plain/\HM h (a.flatten.map eK) w d h
def MR(P:Program)(g:FuncId)(f:Bool)(e:M D)(q:Int)(d:M D)(c:Int):Prop:=
 ∀(w:World) (h:Nat->Nat) (v:Value) (b:M Value) (a:M Fp),TJ P w (a.flatten.map eK)->T8 P g f e q d c w h v b a
def zQ(a:World)(b:M Nat)(P:Program)(k:FuncId)(j:Bool)(i:M D)(q:Int)(f:M D)(e:Int):Prop:=
 ∀(w:World) (h:Nat->Nat) (v:Value) (d:M Value) (c:M Fp),a.heap.size<=w.heap.size->(∀g,g < a.heap.size->g∉b->w.heap[g]?=a.heap[g]?)->(∀g∈c.flatten.map eK,a.heap.size<=g\/g∈b)->T8 P k j i q f e w h v d c
theorem MR.at_{P:Program}{g:FuncId}{f:Bool}{e c:M D}{q b:Int}{a:World}{d:M Nat}(h:MR P g f e q c b)(j:TJ P a d):zQ a d P g f e q c b:=
 λw k v i o n m l=>h w k v i o (j.step n m l)
theorem Oa{d j i:Nat}(h:j≠i):um d j≠um d i:=by unfold um;omega
section
variable {h0:Nat->Nat} {io:M Nat} {w0:World} {f:Fm} {w:World}
theorem Inv.aaH{a:Gh}{s:St}(b:Inv a h0 io w0 s f w)(d:Nat)(c:C)(i:CR a w c (f d)):Inv a h0 io w0 (s.put (Z d) c) f w:=
 {b with
  sl:=λe j h=>by
   simp only[St.put,look]at h;by_cases g:d=e
   ·subst g;simp at h;subst h;exact i
   ·rw[if_neg g]at h;exact b.sl e j h }
theorem oW.slice{h:Nat->Nat}{x:Row}{v:Value}{F:M Nat}(a:oW h w x v F):∃A n c,v=.slice A n c:=by
 obtain⟨A,n,c,b,_⟩:=a;exact⟨A,n,c,b⟩
theorem mT{d:Nat}:∀(l:M RV) {m:M Value} {F:M Nat} (j:Nat) {b:Gh} {s:St},Inv b h0 io w0 s f w->jr b.h w l m F->F.Nodup->(∀g∈F,(b.ω g=.free\/b.ω g=.fP)/\g < w.heap.size/\(w0.heap.size<=g\/g∈io))->
  ∃a,Inv a h0 io w0 (er d j l s).2 f w/\fF a w (er d j l s).1 m/\a.β=b.β/\a.h=b.h/\(∀g,g∉F->a.ω g=b.ω g)/\∀q,(∀i,j<=i->q≠um d i)->a.sl q=b.sl q
 |[],m,F,j,b,s,e,c,_,_=>by
  simp only[jr]at c;obtain⟨rfl,rfl⟩:=c;exact⟨b,e,by simp[er,fF],rfl,rfl,λ_ _=>rfl,λ_ _=>rfl⟩
 | .d x::l,m,F,j,b,s,e,c,p,y=>by
  simp only[jr,JP]at c;obtain⟨v,C,L,F2,rfl,rfl,⟨rfl,G,BB,U⟩,c⟩:=c;obtain⟨a,B,c1,D,n,o,Q⟩:=mT l (j+1) e c (by simpa using p) (by simpa using y);refine⟨a,B,?_,D,n,by simpa using o,λq t=>Q q (λi e=>t i (by omega))⟩;simp only[er,fF];exact⟨v,C,rfl,by simp only[CR];exact⟨G,BB,by rw[n];exact U⟩,c1⟩
 | .row x::l,m,F,j,b,s,e,c,p,y=>by
  simp only[jr,JP]at c;obtain⟨v,C,L,F2,rfl,rfl,⟨K,N⟩,c⟩:=c;rw[bG]at p;obtain⟨_,Nn,P⟩:=p;obtain⟨nC,B,A,D,n,o,R⟩:=e.ux (r:=um d j) K N (λg k=>by
   have:=y g (by simp[k]);exact⟨by rcases this.1 with h|h<;>simp[h],this.2⟩)
  obtain⟨T,i2,X,Y,W,S,H⟩:=mT l (j+1) B (by rw[n];exact c) Nn (λg k=>by
   have V:g∉L:=λh=>P g h g k rfl;rw[o g V];exact y g (by simp[k]))
  refine⟨T,i2,?_,Y.trans D,W.trans n,λg k=>?_,λq t=>?_⟩
  ·simp only[er,fF];refine⟨v,C,rfl,?_,X⟩;simp only[CR];rw[H (um d j) (λi e=>Oa (by omega)),A];exact⟨rfl,K.slice⟩
  ·simp only[aS,not_or]at k;rw[S g k.2,o g k.1]
  ·rw[H q (λi e=>t i (by omega)),R q (t j (au _))]
theorem sZ{d:Nat}:∀(e:M RV) {n:M Value} {F:M Nat} (j:Nat) {b:Gh} {s:St},Inv b h0 io w0 s f w->jr b.h w e n F->F.Nodup->(∀g∈F,(b.ω g=.free\/b.ω g=.fP)/\g < w.heap.size/\(w0.heap.size<=g\/g∈io))->
  ∃a,Inv a h0 io w0 (er d j e s).2 f w/\(∀m,m.h=a.h->(∀i,j<=i->i < j+e.length->m.sl (um d i)=a.sl (um d i))->fF m w (er d j e s).1 n)/\a.β=b.β/\a.h=b.h/\(∀g,g∉F->a.ω g=b.ω g)/\∀q,(∀i,j<=i->q≠um d i)->a.sl q=b.sl q
 |[],n,F,j,b,s,k,c,_,_=>by
  simp only[jr]at c;obtain⟨rfl,rfl⟩:=c;exact⟨b,k,λ_ _ _=>by simp[er,fF],rfl,rfl,λ_ _=>rfl,λ_ _=>rfl⟩
 | .d x::e,n,F,j,b,s,k,c,t,A=>by
  simp only[jr,JP]at c;obtain⟨v,N,S,F2,rfl,rfl,⟨rfl,G,BB,Y⟩,c⟩:=c;obtain⟨a,H,c1,P,o,p,V⟩:=sZ e (j+1) k c (by simpa using t) (by simpa using A);refine⟨a,H,λm C B=>?_,P,o,by simpa using p,λq y=>V q (λi k=>y i (by omega))⟩;simp only[er,fF];exact⟨v,N,rfl,by simp only[CR];exact⟨G,BB,by rw[C,o];exact Y⟩,c1 m C (λi L K=>B i (by omega) (by simp;omega))⟩
 | .row x::e,n,F,j,b,s,k,c,t,A=>by
  simp only[jr,JP]at c;obtain⟨v,N,S,F2,rfl,rfl,⟨R,T⟩,c⟩:=c;rw[bG]at t;obtain⟨_,Nn,U⟩:=t;obtain⟨nC,H,D,P,o,p,W⟩:=k.ux (r:=um d j) R T (λg l=>by
   have:=A g (by simp[l]);exact⟨by rcases this.1 with h|h<;>simp[h],this.2⟩)
  obtain⟨m,i2,c2,b2,L,X,Q⟩:=sZ e (j+1) H (by rw[o];exact c) Nn (λg l=>by
   have K:g∉S:=λh=>U g h g l rfl;rw[p g K];exact A g (by simp[l]))
  refine⟨m,i2,λMK C B=>?_,b2.trans P,L.trans o,λg l=>?_,λq y=>?_⟩
  ·simp only[er,fF];refine⟨v,N,rfl,?_,c2 MK C (λi L K=>B i (by omega) (by simp;omega))⟩;simp only[CR];rw[B j (au _) (by simp),Q (um d j) (λi k=>Oa (by omega)),D];exact⟨rfl,R.slice⟩
  ·simp only[aS,not_or]at l;rw[X g l.2,p g l.1]
  ·rw[Q q (λi k=>y i (by omega)),W q (y j (au _))]
theorem jr.length{h:Nat->Nat}:∀{b:M RV} {c:M Value} {F:M Nat},jr h w b c F->c.length=b.length
 |[],_,_,a=>by simp only[jr]at a;simp[a.1]
 |_::_,_,_,a=>by
  simp only[jr]at a;obtain⟨v,d,g,e,rfl,rfl,_,a⟩:=a;simp[jr.length a]
theorem At{b:Gh}{a:M C}{v:Value}(h:fF b w a [v]):CR b w (a.headD .any) v:=by
 cases a with
 |nil=>simp[fF]at h
 |cons c a=>
  simp only[fF]at h;obtain⟨g,i,e,d,_⟩:=h;simp only[bZ]at e;rw[e.1];exact d
theorem DD{p:Nat}:∀(a:M RV) (j:Nat) (s:St),C.jD (900+p) (er (p+500) j a s).1=(er (p+500) j a s).1
 |[],j,s=>by simp[er,C.jD]
 | .d x::a,j,s=>by simp only[er,C.jD,C.kill,DD a (j+1) s]
 | .row x::a,j,s=>by
  have h:um (p+500) j≠900+p:=by unfold um;omega
  simp only[er,C.jD,C.kill,DD a (j+1),if_neg h]
theorem uO:∀(as:M A) {n:M Value} {F:M Nat} (p:Nat) {j:Gh} {s:St},Inv j h0 io w0 s f w->ml j.h w as n F->F.Nodup->(∀g∈F,(j.ω g=.free\/j.ω g=.fP)/\g < w.heap.size/\(w0.heap.size<=g\/g∈io))->(∀i v,n[i]?=Z v->f (p+i)=v)->
  ∃k,Inv k h0 io w0 (lS p as s) f w/\k.h=j.h/\(∀q,q < p->k.β (900+q)=j.β (900+q))/\∀i m g,as[i]?=Z (.box m)->n[i]?=Z (.pointer (Z ⟨g,0,O⟩))->k.β (900+(p+i))=g
 |[],n,F,p,j,s,B,_,_,_,_=>⟨j,B,rfl,λ_ _=>rfl,λi m g h=>by simp at h⟩
 | .val ag m::as,n,F,p,j,s,B,l,x,r,D=>by
  simp only[ml,AR]at l;obtain⟨v,fK,F1,F2,rfl,rfl,⟨us,P,ha,hb⟩,l⟩:=l;rw[bG]at x;obtain⟨N,Nn,H⟩:=x;obtain⟨nC,S,c1,X,t,K,_⟩:=mT (d:=p) m 0 B P N (λg o=>r g (by simp[o]));have e:f p=v:=by simpa using D 0 v rfl
  have i2:Inv nC h0 io w0 (Ah p (.val ag m) s) f w:=by
   refine S.aaH p _ ?_;cases ag with
   |true=>
    rw[e,ha rfl];simp only[if_true,CR];exact⟨us,rfl,c1⟩
   |false=>
    rw[e];simp only[aC,if_false];rw[hb rfl]at c1;exact At c1
  obtain⟨Q,i3,G,p3,x3⟩:=uO as (p+1) i2 (by rw[t];exact l) Nn (λg o=>by
   have G:g∉F1:=λh=>H g h g o rfl;rw[K g G];exact r g (by simp[o])) (λi a V=>by rw[show p+1+i=p+(i+1) from by omega];exact D (i+1) a (by simpa using V))
  refine⟨Q,i3,G.trans t,λq hq=>by rw[p3 q (by omega),X],λi R g L c=>?_⟩;cases i with
  |zero=>simp at L
  |succ i=>
   have:=x3 i R g (by simpa using L) (by simpa using c);rw[show p+(i+1)=p+1+i from by omega];exact this
 | .box m::as,n,F,p,j,s,B,l,x,r,D=>by
  simp only[ml,AR]at l;obtain⟨v,fK,F1,F2,rfl,rfl,⟨g,T,us,F',rfl,hB,Bx,rfl,P⟩,l⟩:=l;rw[bG]at x;obtain⟨N,Nn,H⟩:=x;obtain⟨W,Y⟩:=cl.1 N;obtain⟨nC,S,c1,X,t,K,_⟩:=mT (d:=p+500) m 0 B P Y (λg o=>r g (by simp[o]));have e:=D 0 _ rfl;rw[eu]at e;have C:=r g (by simp);obtain⟨Q,i2,j2,k2,l2,m2,w2⟩:=S.HQ (b:=900+p) hB (by rw[K g W];exact C.1) C.2.2 (by rw[t];exact Bx) c1;rw[DD]at i2;have i3:Inv Q h0 io w0 (Ah p (.box m) s) f w:=i2.aaH p (.ptr (900+p) 0) (by rw[e];simp only[CR,j2]);obtain⟨MK,i4,h4,p4,x4⟩:=uO as (p+1) i3 (by rw[l2,t];exact l) Nn (λy U=>by
   have G:y∉F':=λh=>H y (by simp[h]) y U rfl;have h5:y≠g:=λh=>H y (by simp[h]) y U rfl;rw[w2 y h5,K y G];exact r y (by simp[U])) (λi a V=>by rw[show p+1+i=p+(i+1) from by omega];exact D (i+1) a (by simpa using V))
  refine⟨MK,i4,h4.trans (l2.trans t),λq hq=>by rw[p4 q (by omega),k2 _ (by omega),X],λi R g' L c=>?_⟩;cases i with
  |zero=>
   simp at c;rw[p4 _ (by omega),eu,j2,c]
  |succ i=>
   have:=x4 i R g' (by simpa using L) (by simpa using c);rw[show p+(i+1)=p+1+i from by omega];exact this
theorem xW{p:Gh}{s:St}(R:Inv p h0 io w0 s f w):∀(m:M C) {t:M Value} {A:M RV},fF p w m t->gJ (jT s) m=Z A->
  ∃F,jr p.h w A t F/\(∀g∈F,∃r∈rowsOf m,p.ω g=.row r)/\((rowsOf m).Nodup->F.Nodup)
 |[],t,A,o,i=>by
  simp only[gJ,aa]at i;subst i;simp only[fF]at o;subst o;exact⟨[],by simp[jr],λ_ h=>by simp at h,λ_=>by simp⟩
 |c::m,t,A,o,i=>by
  simp only[fF]at o;obtain⟨v,N,rfl,l,T⟩:=o;simp only[gJ]at i
  split at i
  ·rename_i y j;simp only[ak]at i;obtain⟨EB,i,rfl⟩:=i;obtain⟨F,L,B,K⟩:=xW R m T i;cases c with
   |d x=>
    simp only[jT,aa]at j;subst j;simp only[CR]at l;refine⟨F,?_,by simpa [rowsOf] using B,by simpa [rowsOf] using K⟩;simp only[jr,JP];exact⟨v,N,[],F,rfl,rfl,⟨rfl,l⟩,L⟩
   |nil k Y=>
    simp only[jT,aa]at j;subst j;simp only[CR]at l;refine⟨F,?_,by simpa [rowsOf] using B,by simpa [rowsOf] using K⟩;simp only[jr,JP];exact⟨v,N,[],F,rfl,rfl,⟨⟨O,0,0,l.1,rfl,au _,by simp[maxLen],l.2,λ_ h=>by simp at h,λ_=>km,.inl ⟨rfl,rfl,rfl⟩⟩,by simp⟩,L⟩
   |ref r=>
    simp only[jT,ak]at j;obtain⟨x,U,rfl⟩:=j;simp only[CR]at l;obtain⟨S,X,Q,P⟩:=R.rw r x U;refine⟨S++F,?_,λg n=>?_,λH=>?_⟩
    ·simp only[jr,JP];exact⟨v,N,S,F,rfl,rfl,⟨by rw[l.1];exact X,Q⟩,L⟩
    ·rcases aS.1 n with n|n
     ·exact⟨r,by simp[rowsOf],P g n⟩
     ·obtain⟨q,G,D⟩:=B g n;exact⟨q,by simp[rowsOf,G],D⟩
    ·simp only[rowsOf,cl]at H;rw[bG];refine⟨Q,K H.2,?_⟩;intro a W b V e;subst e;obtain⟨q,G,D⟩:=B a V;rw[P a W]at D;cases D;exact H.1 G
   |_=>simp[jT]at j
  ·cases i
end
end
section
open Go.RowKit
section
variable {h0:Nat->Nat} {io:M Nat} {w0:World} {f:Fm} {w:World}
theorem BL(s:St)(r:Nat)(x:Row):(s.cQ r).setRow r x=s.setRow r x:=by
 simp[St.setRow,St.cQ,Hg]
theorem Inv.share1{j:Gh}{s:St}(hi:Inv j h0 io w0 s f w){r:Nat}{x:Row}(hl:look s.rw r=Z x) :
  ∃a G,Inv a h0 io w0 (s.setRow r x.share) f w/\a.β=j.β/\a.sl=j.sl/\(∀g,j.h g<=a.h g)/\Rp w (.list x.k x.fl x.es) (j.sl r) G/\eM a.h G/\∀g,a.ω g=j.ω g\/a.ω g=.fP\/a.ω g=.free\/a.ω g=.row r:=by
 obtain⟨i,A,n,c,i2,S,v8,K,o2,l2,C,B,v,t,q,p,l,q8⟩:=hi.tu hl;have H:∀g,i.ω g=j.ω g\/i.ω g=.fP:=λg=>by
  rcases jK (j.ω g=.row r) with h|h
  ·exact .inr (l2 g h)
  ·exact .inl (o2 g h)
 rcases q8 with ⟨rfl,rfl⟩|⟨g,o,xs,G,rfl,a2,a3,a4,a5,P,a7,U,a9,tM,CN,a12⟩
 ·have hR:oW i.h w x.share (i.sl r) []:=⟨O,n,0,by rw[v8];exact C,B,v,t,q,p,l,.inl ⟨rfl,rfl,rfl⟩⟩
  obtain⟨a,h2,h3,h4,h5,h6⟩:=i2.setRow (r:=r) hR (by simp) (λ_ h=>by simp at h);rw[BL]at h2;refine⟨a,[],h2,h4.trans S,h3.trans v8,λg=>by rw[h5,K];exact au _,?_,λ_ h=>by simp at h,λg=>?_⟩
  ·simp only[Rp];exact⟨O,n,0,C,B,v,t,l,q,p,.inl ⟨by omega,trivial⟩⟩
  ·rcases h6 g with h|h
   ·rw[h];rcases H g with h'|h'
    ·exact .inl h'
    ·exact .inr (.inl h')
   ·exact .inr (.inr (.inr h))
 ·have i3:=i2.settle (h':=λy=>if y=g then o+n * x.k else i.h y) (ω':=i.ω) (λy=>by
    split
    ·rename_i e;subst e;rw[K];exact U
    ·exact au _)
   (λy m=>by
    have e:y=g:=by
     rcases jK (y=g) with h|h
     ·exact h
     ·exact absurd (by simp[h]) m
    subst e;have Y:=i2.own y (by rw[a4];simp);exact⟨Y.1,Y.2,λ_ _ _=>by rw[a4];simp,λ_ _ _=>by rw[a4];simp⟩)
   (λy=>.inl rfl)
   (λy b m=>by
    by_cases e:y=g
    ·subst e;rw[a4]at m;cases m
    ·simp only[if_neg e];exact i2.nE y b m)
  have T:∀y,y≠g->yd i w y->yd {i with h:=λy=>if y=g then o+n * x.k else i.h y,ω:=i.ω } w y:=λy m R=>⟨R.1,by simp only[if_neg m];exact R.2.1,R.2.2⟩
  obtain⟨d,i4,V,b4,W,g4,w4⟩:=i3.vD (r:=r) (x:=x.share) (n:=n) (c:=c) (g:=g) (o:=o) B v t q p l a2 (.inl a4) (i2.own g (by rw[a4];simp)).2 a5 P a7 (by simp only[if_true];exact au _) (λh=>by cases h) tM
   (λN D=>by
    rcases CN N D with h|⟨h,X⟩
    ·by_cases e:N.1=g
     ·simp only[if_pos e];rw[e]at h;exact .inl (aL h U)
     ·simp only[if_neg e];rw[K];exact .inl h
    ·exact .inr ⟨T _ X h,X⟩)
   (λL=>by
    have:G=[]:=P.plain (l L);subst this;simp)
   (by show i.sl r=_;rw[v8];exact C)
  rw[BL]at i4;have mono:∀y,j.h y<=d.h y:=λy=>by
   refine aL ?_ (W y);show j.h y<=if y=g then o+n * x.k else i.h y
   split
   ·rename_i e;subst e;exact U
   ·rw[K];exact au _
  have Q:o+n * x.k<=d.h g:=by
   have:=W g
   simpa using this
  have lT:eM d.h G:=by
   cases L:x.fl with
   |true=>
    have:G=[]:=P.plain (l L);subst this;exact λ_ h=>by simp at h
   |false=>exact g4 L
  have F:∀g,d.ω g=j.ω g\/d.ω g=.fP\/d.ω g=.free\/d.ω g=.row r:=λy=>by
   rcases w4 y with h|h|h
   ·rw[h];rcases H y with h'|h'
    ·exact .inl h'
    ·exact .inr (.inl h')
   ·exact .inr (.inr (.inl h))
   ·exact .inr (.inr (.inr h))
  by_cases hn:n=0
  ·refine⟨d,[],i4,b4.trans S,V.trans v8,mono,?_,λ_ h=>by simp at h,F⟩;simp only[Rp];exact⟨_,n,c,C,B,v,t,l,q,p,.inl ⟨hn,trivial⟩⟩
  ·refine⟨d,(g,o+n * x.k)::G,i4,b4.trans S,V.trans v8,mono,?_,λN D=>?_,F⟩
   ·simp only[Rp];exact⟨_,n,c,C,B,v,t,l,q,p,.inr ⟨by omega,g,o,xs,G,rfl,rfl,P,a7⟩⟩
   ·rcases aP.1 D with rfl|D
    ·exact Q
    ·exact lT N D
theorem u_(s:St)(r q:Nat)(x:Row):look (s.setRow r x).rw q=if r=q then Z x else look s.rw q:=by
 simp only[St.setRow,look,fg]
 split<;>rfl
theorem Inv.xS:∀(c:M Nat) {d:Gh} {s:St},Inv d h0 io w0 s f w->
  ∃a,Inv a h0 io w0 (eE s c) f w/\a.β=d.β/\a.sl=d.sl/\(∀g,d.h g<=a.h g)/\(∀r∈c,∀x,look s.rw r=Z x->∃G,Rp w (.list x.k x.fl x.es) (d.sl r) G/\eM a.h G)/\
   (∀g,a.ω g=d.ω g\/a.ω g=.fP\/a.ω g=.free\/∃r∈c,a.ω g=.row r)/\(eE s c).sl=s.sl/\(eE s c).bx=s.bx/\∀q,q∉c->look (eE s c).rw q=look s.rw q
 |[],d,s,m=>⟨d,m,rfl,rfl,λ_=>au _,λ_ h=>by simp at h,λ_=>.inl rfl,rfl,rfl,λ_ _=>rfl⟩
 |r::c,d,s,m=>by
  cases j:look s.rw r with
  |none=>
   obtain⟨a,t,H,l,p,g1,n,D,C,B⟩:=Inv.xS c m;have F:eE s (r::c)=eE s c:=by simp[eE,j]
   rw[F];refine⟨a,t,H,l,p,λq b x A=>?_,λg=>?_,D,C,λq b=>B q (λh=>b (by simp[h]))⟩
   ·rcases aP.1 b with rfl|b
    ·rw[j]at A;cases A
    ·exact g1 q b x A
   ·rcases n g with h|h|h|⟨q,b,h⟩
    ·exact .inl h
    ·exact .inr (.inl h)
    ·exact .inr (.inr (.inl h))
    ·exact .inr (.inr (.inr ⟨q,by simp[b],h⟩))
  |some x=>
   obtain⟨V,G,t,H,l,p,o,K,n⟩:=m.share1 j;obtain⟨Q,i2,T,P,L,g2,N,D,C,B⟩:=Inv.xS c t;have F:eE s (r::c)=eE (s.setRow r x.share) c:=by simp[eE,j]
   rw[F];refine⟨Q,i2,T.trans H,P.trans l,λg=>aL (p g) (L g),λq b y v=>?_,λg=>?_,D,C,λq b=>?_⟩
   ·by_cases e:q=r
    ·subst e;rw[j]at v;cases v;exact⟨G,o,K.mono L⟩
    ·rcases aP.1 b with b|b
     ·exact absurd b e
     ·obtain⟨U,S,R⟩:=g2 q b y (by rw[u_,if_neg (n9 e)];exact v);exact⟨U,by rw[<- l];exact S,R⟩
   ·rcases N g with h|h|h|⟨q,b,h⟩
    ·rw[h];rcases n g with i|i|i|i
     ·exact .inl i
     ·exact .inr (.inl i)
     ·exact .inr (.inr (.inl i))
     ·exact .inr (.inr (.inr ⟨r,by simp,i⟩))
    ·exact .inr (.inl h)
    ·exact .inr (.inr (.inl h))
    ·exact .inr (.inr (.inr ⟨q,by simp[b],h⟩))
   ·simp only[aP,not_or]at b;rw[B q b.2,u_,if_neg (n9 b.1)]
theorem pQ:∀(l:M Nat),kM l=I↔l.Nodup
 |[]=>by simp[kM]
 |x::l=>by simp[kM,pQ l]
theorem Q1{s S:St}:∀(a:M C),(∀r∈rowsOf a,look S.rw r=look s.rw r)->gJ (jT S) a=gJ (jT s) a
 |[],_=>rfl
 |c::a,h=>by
  have b:=Q1 (s:=s) (S:=S) a (λr d=>h r (by cases c<;>simp[rowsOf,d]));simp only[gJ,b];cases c with
  |ref r=>simp only[jT,h r (by simp[rowsOf])]
  |_=>rfl
theorem Q0{s:St}:∀{a:M C} {b:M RV},gJ (jT s) a=Z b->a.all C.cell=I
 |[],_,_=>rfl
 |c::a,b,h=>by
  simp only[gJ]at h
  split at h
  ·rename_i y e;simp only[ak]at h;obtain⟨g,h,_⟩:=h;have d:=Q0 h;cases c<;>simp_all[jT,C.cell]
  ·cases h
theorem zm{s:St}:∀{a:M C} {b:M RV},gJ (mJ s) a=Z b->a.all C.cell=I
 |[],_,_=>rfl
 |c::a,b,h=>by
  simp only[gJ]at h
  split at h
  ·rename_i y e;simp only[ak]at h;obtain⟨g,h,_⟩:=h;have d:=zm h;cases c<;>simp_all[mJ,C.cell]
  ·cases h
theorem Xi{m p:Gh}{s:St}{q:M Nat}(t:∀g,m.h g<=p.h g)(B:∀r∈q,∀x,look s.rw r=Z x->∃G,Rp w (.list x.k x.fl x.es) (m.sl r) G/\eM p.h G) :
  ∀(i:M C) {j:M Value} {l:M RV},fF m w i j->gJ (mJ s) i=Z l->(∀r∈rowsOf i,r∈q)->jr p.h w l j []
 |[],j,l,e,h,_=>by
  simp only[gJ,aa]at h;subst h;simp only[fF]at e;simp[jr,e]
 |c::i,j,l,e,h,A=>by
  simp only[fF]at e;obtain⟨v,L,rfl,b,D⟩:=e;simp only[gJ]at h
  split at h
  ·rename_i y a;simp only[ak]at h;obtain⟨P,h,rfl⟩:=h;have F:=Xi t B i D h (λr K=>A r (by cases c<;>simp[rowsOf,K]));simp only[jr];refine⟨v,L,[],[],rfl,rfl,?_,F⟩;cases c with
   |d x=>
    simp only[mJ,aa]at a;subst a;simp only[CR]at b;obtain⟨G,o,n⟩:=b;exact⟨rfl,G,o,n.mono t⟩
   |nil k N=>
    simp only[mJ,aa]at a;subst a;simp only[CR]at b;refine⟨rfl,[],?_,λ_ h=>by simp at h⟩;simp only[Rp];exact⟨O,0,0,b.1,rfl,au _,by simp[maxLen],λ_=>km,b.2,λ_ h=>by simp at h,.inl ⟨rfl,trivial⟩⟩
   |ref r=>
    simp only[mJ,ak]at a;obtain⟨x,H,rfl⟩:=a;simp only[CR]at b;obtain⟨G,o,n⟩:=B r (A r (by simp[rowsOf])) x H;exact⟨rfl,G,by rw[b.1];exact o,n⟩
   |_=>simp[mJ]at a
  ·cases h
theorem CT{H j:Gh}{s S:St}{ln:M Nat}(hS:Inv j h0 io w0 S f w)(hb:j.β=H.β)(rR:j.sl=H.sl)(Q:∀g,H.h g<=j.h g)(V:S.bx=s.bx)(hG:∀r∈ln,∀x,look s.rw r=Z x->∃G,Rp w (.list x.k x.fl x.es) (H.sl r) G/\eM j.h G)
  (R:∀q,q∉ln->look S.rw q=look s.rw q):∀(i:M C) {K:M Value} {as:M A},fF H w i K->vu s i=Z as->(∀r∈ji i,r∈ln)->(∀r∈dR s i,r∉ln)->(dR s i).Nodup->(cO i).Nodup->
   ∃F,ml j.h w as K F/\F.Nodup/\(∀g∈F,(∃r∈dR s i,j.ω g=.row r)\/∃b∈cO i,j.ω g=.box b/\g=j.β b)/\∀b∈cO i,Value.pointer (Z ⟨j.β b,0,O⟩)∈gq as K
 |[],K,as,U,h,_,_,_,_=>by
  simp only[vu,aa]at h;subst h;simp only[fF]at U;exact⟨[],by simp[ml,U],by simp,λ_ h=>by simp at h,λ_ h=>by simp[cO]at h⟩
 |c::i,K,as,U,h,hl,o,No,L=>by
  simp only[fF]at U;obtain⟨v,fK,rfl,hv,vM⟩:=U;simp only[vu]at h
  split at h
  ·rename_i a t;simp only[ak]at h;obtain⟨MV,h,rfl⟩:=h;simp only[ji,dR]at hl o No;rw[bG]at No;obtain⟨zN,Nn,N⟩:=No;have alf:(cO i).Nodup:=by
    cases c<;>simp_all[cO]
   obtain⟨F2,r2,d2,l2,p2⟩:=CT hS hb rR Q V hG R i vM h (λr d=>hl r (by simp[d])) (λr d=>o r (by simp[d])) Nn alf;have Nu:CR j w c v:=hv.mono (γ':=j) Q (λ_ _ _=>rfl) hb rR c;unfold Oz at t
   split at t
   ·rename_i b
    split at t
    ·rename_i TK X;simp only[ak]at t;obtain⟨rs,D,rfl⟩:=t;have P:qy s (.ptr b 0)=rowsOf TK:=by simp[qy,X]
     rw[P]at o zN N;obtain⟨T,us,k1,k2,B⟩:=hS.bx b TK (by rw[V];exact X);rw[<- Q1 (S:=S) _ (λr d=>R r (o r (by simp[d])))]at D;obtain⟨F1,x1,x2,x3⟩:=xW hS _ k2 D;simp only[CR]at Nu;simp only[cO,cl]at L;refine⟨(j.β b::F1)++F2,?_,?_,λg p=>?_,λY l=>?_⟩
     ·simp only[ml];refine⟨v,fK,j.β b::F1,F2,rfl,rfl,?_,r2⟩;simp only[AR];exact⟨_,T,us,F1,Nu,k1,hS.nE _ b B,rfl,x1⟩
     ·rw[bG];refine⟨cl.2 ⟨λQ=>?_,x3 zN⟩,d2,?_⟩
      ·obtain⟨r,_,d⟩:=x2 _ Q;rw[B]at d;cases d
      ·intro x hx y hy e;subst e;rcases aP.1 hx with rfl|hx
       ·rcases l2 _ hy with ⟨q,hq,n⟩|⟨Y,l,n,_⟩
        ·rw[B]at n;cases n
        ·rw[B]at n;cases n;exact L.1 l
       ·obtain⟨r,d,m⟩:=x2 x hx;rcases l2 x hy with ⟨q,hq,n⟩|⟨Y,l,n,_⟩
        ·rw[m]at n;cases n;exact N _ d _ hq rfl
        ·rw[m]at n;cases n
     ·rcases aS.1 p with p|p
      ·rcases aP.1 p with rfl|p
       ·exact .inr ⟨b,by simp[cO],B,rfl⟩
       ·obtain⟨r,d,m⟩:=x2 g p;exact .inl ⟨r,by simp only[dR,aS,P];exact .inl d,m⟩
      ·rcases l2 g p with ⟨r,d,m⟩|⟨Y,l,m⟩
       ·exact .inl ⟨r,by simp only[dR,aS];exact .inr d,m⟩
       ·exact .inr ⟨Y,by simp[cO,l],m⟩
     ·simp only[cO,aP]at l;simp only[gq,aP];rcases l with rfl|l
      ·exact .inl Nu.symm
      ·exact .inr (p2 Y l)
    ·cases t
   ·rename_i Zz;simp only[ak]at t;obtain⟨rs,D,rfl⟩:=t;obtain⟨k1,k2,B⟩:=hv.cells (zm D);have x1:=Xi Q hG _ k1 D (λr d=>hl r (by simp[d]));have W:cO (c::i)=cO i:=by
     have wT:=zm D;cases c<;>simp_all[cO,C.cells,C.cell]
    refine⟨F2,?_,d2,λg p=>?_,λb l=>?_⟩
    ·simp only[ml];refine⟨v,fK,[],F2,rfl,rfl,?_,r2⟩;simp only[AR];refine⟨_,x1,λzM=>?_,λzM=>by rw[k2 zM]⟩;obtain⟨us,rfl⟩:=B zM;simp[Value.cells]
    ·rw[W];rcases l2 g p with ⟨r,d,m⟩|m
     ·exact .inl ⟨r,by simp only[dR,aS];exact .inr d,m⟩
     ·exact .inr m
    ·rw[W]at l;simp only[gq];exact p2 b l
  ·cases h
theorem Ky{d a:Gh}{s:St}{n:M Nat}(t:∀g,d.h g<=a.h g)(l:a.β=d.β)(o:a.sl=d.sl)(y:∀r∈n,∀x,look s.rw r=Z x->∃G,Rp w (.list x.k x.fl x.es) (d.sl r) G/\eM a.h G) :
  ∀{m:M C} {j:M Value},(∀r∈rowsOf m,r∈n)->fF d w m j->fF a w (m.map (M5 s)) j
 |[],j,_,h=>by simpa only [cE,fF] using h
 |c::m,j,q,h=>by
  simp only[fF]at h;obtain⟨v,D,rfl,b,B⟩:=h;simp only[aW,fF];refine⟨v,D,rfl,?_,Ky t l o y (λr p=>q r (by cases c<;>simp_all[rowsOf])) B⟩;have i:CR a w c v:=CR.mono t (λ_ _ _=>rfl) l o c b;cases c with
  |ref r=>
   simp only[M5];split
   ·rename_i x p;obtain⟨G,g1,g2⟩:=y r (q r (by simp[rowsOf])) x p;simp only[CR]at b ⊢;rw[b.1];exact⟨G,g1,g2⟩
   ·exact i
  |nil k F=>
   simp only[CR]at b;simp only[M5,CR];exact⟨[],by simp only[Rp];exact⟨O,0,0,b.1,rfl,au _,by simp[maxLen],λ_=>km,b.2,λe A=>by simp at A,.inl ⟨rfl,trivial⟩⟩,λH l=>by simp at l⟩
  |_=>exact i
theorem Inv.oZ{m:Gh}{s D:St}{d:Nat}(j:Inv m h0 io w0 s f w)(i:Proofs.YthlpjklbafakfaaGreatDoor.oZ s d=Z D):∃a,Inv a h0 io w0 D f w/\a.β=m.β/\∀g,m.h g<=a.h g:=by
 unfold Proofs.YthlpjklbafakfaaGreatDoor.oZ at i
 split at i
 ·rename_i r n
  split at i
  ·rename_i x t;cases i;obtain⟨a,q,p,C,v,g1,_⟩:=j.xS [r];obtain⟨G,L,K⟩:=g1 r (by simp) x t;have c:=j.get d;rw[n]at c;simp only[CR]at c;exact⟨a,q.aaH d _ (by simp only[CR];rw[c.1];exact⟨G,L,K⟩),p,v⟩
  ·cases i
 ·rename_i k R n;cases i;have c:=j.get d;rw[n]at c;simp only[CR]at c;exact⟨m,j.aaH d _ (by simp only[CR];exact⟨[],by simp only[Rp];exact⟨O,0,0,c.1,rfl,au _,by simp[maxLen],λ_=>km,c.2,λe o=>by simp at o,.inl ⟨rfl,trivial⟩⟩,λS H=>by simp at H⟩),rfl,λ_=>au _⟩
 ·rename_i b n
  split at i
  ·rename_i A t;cases i;obtain⟨T,F,hB,N,Q⟩:=j.bx b A t;obtain⟨a,q,p,C,v,g1,_,_,y,_⟩:=j.xS (rowsOf A);obtain⟨V,P,l,U,B⟩:=q.bx b A (by rw[y];exact t);have c:P=F:=by
    rw[p]at l;have o:=iE (l.symm.trans hB)
    injection o with o
    simpa using congrArg Array.toList o
   exact⟨a,q.gk l B (c▸Ky v p C g1 (λr n=>n) N),p,v⟩
  ·cases i;exact⟨m,j,rfl,λ_=>au _⟩
 ·cases i;exact⟨m,j,rfl,λ_=>au _⟩
end
end
section
open Go.RowKit
section
variable {h0:Nat->Nat} {io:M Nat} {w0:World} {f:Fm} {w:World}
theorem Inv.after{c:Gh}{s:St}(n:Inv c h0 io w0 s f w){C h':Nat->Nat}{F mv bs:M Nat}{v:World}(l:HM C F w v h')(H:∀g,c.h g<=C g)(N:∀g∈F,(∃r∈mv,c.ω g=.row r)\/∃b∈bs,c.ω g=.box b)(Q:∀r∈mv,look s.rw r=O)(S:∀b∈bs,look s.bx b=O)
  (X:∀g∈F,∀b,c.ω g=.box b->h' g=0) :
  wK c (λo=>(∃r∈mv,o=.row r)\/∃b∈bs,o=.box b) w v/\
  ∃d,Inv d h0 io w0 s f v/\d.β=c.β/\d.sl=c.sl/\(∀g,c.h g<=d.h g)/\(∀g,g < w.heap.size->g∉F->d.h g=c.h g)/\(∀g,w.heap.size<=g\/g∈F->d.h g=h' g)/\(∀g∈F,(∃r∈mv,c.ω g=.row r)->d.ω g=.fP)/\(∀g b,c.ω g=.box b->d.ω g=.box b)/\(∀g,w.heap.size<=g->d.ω g=.free):=by
 have t:∀g∈F,(∃r∈mv,c.ω g=.row r)\/∃b∈bs,c.ω g=.box b:=N;have P:wK c (λo=>(∃r∈mv,o=.row r)\/∃b∈bs,o=.box b) w v:={
  os:=l.os,tape:=l.tape,output:=l.output,size:=l.size
  block:=λg a R=>l.block g a (λy=>R (t g y))
  cell:=λg j W=>by
   have a:g < w.heap.size:=by
    rcases dU g w.heap.size with h|h
    ·exact h
    ·have:=n.gy g h;omega
   exact l.cell g j a (cA W (H g))
  gW:=l.gW }
 have V:=n.OQ P (by rintro (⟨r,_,h⟩|⟨b,_,h⟩)<;>cases h) (λb h=>by
   rcases h with ⟨r,_,h⟩|⟨L,G,h⟩
   ·cases h
   ·cases h;exact S b G) (λr h=>by
   rcases h with ⟨Y,D,h⟩|⟨L,_,h⟩
   ·cases h;exact Q r D
   ·cases h)
 have p:∀g∈F,(∀b K,look s.bx b=Z K->c.ω g≠.box b)/\∀r x,look s.rw r=Z x->c.ω g≠.row r:=by
  intro g a;rcases t g a with ⟨r,D,h⟩|⟨b,G,h⟩
  ·refine⟨λb K _=>by rw[h];simp,λq x A=>?_⟩;rw[h];intro e;cases e;rw[Q r D]at A;cases A
  ·refine⟨λL K A=>?_,λq x _=>by rw[h];simp⟩;rw[h];intro e;cases e;rw[S b G]at A;cases A
 refine⟨P,?_⟩;have i2:=V.settle (h':=λg=>if g < w.heap.size/\g∉F then c.h g else h' g) (ω':=λg=>match c.ω g with | .row r=>if r∈mv/\g∈F then .fP else .row r|o=>o)
  (λg=>by
   split
   ·exact au _
   ·rename_i R;rcases dU g w.heap.size with h|h
    ·exact aL (H g) (l.mono g h)
    ·rw[n.gy g h];omega)
  (λg a=>by
   by_cases k:g < w.heap.size/\g∉F
   ·simp[k]at a
   ·simp only[if_neg k]at a;rcases dU g w.heap.size with h|h
    ·have y:g∈F:=by
      rcases jK (g∈F) with i|i
      ·exact i
      ·exact absurd ⟨h,i⟩ k
     have T:c.ω g≠.free:=by rcases t g y with ⟨r,_,h⟩|⟨b,_,h⟩<;>rw[h]<;>simp
     exact⟨cA h l.size,(n.own g T).2,p g y⟩
    ·have U:g < v.heap.size:=by
      rcases dU g v.heap.size with i|i
      ·exact i
      ·exact absurd (by rw[l.gy g i,n.gy g h]) a
     have B:=n.rk h;exact⟨U,.inl (aL n.size h),λ_ _ _=>by rw[B];simp,λ_ _ _=>by rw[B];simp⟩)
  (λg=>by
   cases m:c.ω g with
   |row r=>
    simp only
    by_cases k:r∈mv/\g∈F
    ·rw[if_pos k];have:=p g k.2;rw[m]at this;exact .inr ⟨.inr rfl,by simp,this⟩
    ·rw[if_neg k];exact .inl rfl
   |_=>exact .inl rfl)
  (λg b a=>by
   have m:c.ω g=.box b:=by
    cases m:c.ω g with
    |row r=>
     rw[m]at a;simp only at a
     split at a<;>cases a
    |free=>rw[m]at a;cases a
    |fP=>rw[m]at a;cases a
    |box L=>rw[m]at a;exact a
   by_cases k:g < w.heap.size/\g∉F
   ·simp only[if_pos k];exact n.nE g b m
   ·simp only[if_neg k];rcases dU g w.heap.size with h|h
    ·have y:g∈F:=by
      rcases jK (g∈F) with i|i
      ·exact i
      ·exact absurd ⟨h,i⟩ k
     exact X g y b m
    ·rw[n.rk h]at m;cases m)
 refine⟨_,i2,rfl,rfl,λg=>?_,λg C i=>by simp[C,i],λg a=>?_,λg a ⟨r,D,h⟩=>by simp[h,D,a],λg b h=>by simp[h],λg a=>by simp[n.rk a]⟩
 ·dsimp only;split
  ·exact au _
  ·rcases dU g w.heap.size with h|h
   ·exact aL (H g) (l.mono g h)
   ·rw[n.gy g h];omega
 ·have k:¬(g < w.heap.size/\g∉F):=by
   rintro⟨C,i⟩
   rcases a with h|h
   ·omega
   ·exact i h
  simp only[if_neg k]
theorem oW.re{h i:Nat->Nat}{x:Row}{v:Value}{F:M Nat}(D:oW h w x v F)(e:∀g∈F,i g=h g)(a:x.deep=I\/∀g,h g<=i g):oW i w x v F:=by
 obtain⟨A,n,c,B,y,t,s,r,q,p,d⟩:=D;refine⟨A,n,c,B,y,t,s,r,q,p,?_⟩;rcases d with d|⟨g,o,m,G,a1,a2,a3,a4,a5,N,L,K,a9,b⟩
 ·exact .inl d
 ·have k:g∈F:=by
   cases hd:x.deep with
   |true=>rw[(a9 hd).1];simp
   |false=>rw[(b hd).1];simp
  refine .inr ⟨g,o,m,G,a1,a2,a3,a4,a5,by rw[e g k];exact N,λC=>by rw[e g k];exact L C,K,λhd=>⟨(a9 hd).1,λj l=>?_⟩,λhd=>⟨(b hd).1,?_⟩⟩
  ·have H:j.1∈F:=by rw[(a9 hd).1];simp;exact .inr ⟨j.2,l⟩
   rw[e _ H];exact (a9 hd).2 j l
  ·rcases a with a|a
   ·rw[hd]at a;cases a
   ·exact (b hd).2.mono a
theorem jr.re{h m:Nat->Nat}:∀{c:M RV} {p:M Value} {F:M Nat},jr h w c p F->(∀g∈F,m g=h g)->(c.all RV.closed=I\/∀g,h g<=m g)->jr m w c p F
 |[],_,_,b,_,_=>by simpa only [jr] using b
 | .d x::c,_,_,b,e,a=>by
  simp only[jr,JP]at b ⊢;obtain⟨v,n,q,o,rfl,rfl,⟨rfl,G,i,l⟩,k⟩:=b;refine⟨v,n,[],o,rfl,rfl,⟨rfl,G,i,?_⟩,jr.re k (by simpa using e) (a.imp (λh=>by simp at h ⊢;exact h.2) id)⟩;rcases a with a|a
  ·simp only[bJ,af,RV.closed]at a;have:fV w [x] [v] G:=by simp only[fV];exact⟨v,[],G,[],rfl,by simp,i,rfl,rfl⟩
   have r:G=[]:=this.plain (by simp[a.1]);subst r;exact λ_ h=>by simp at h
  ·exact l.mono a
 | .row x::c,_,_,b,e,a=>by
  simp only[jr,JP]at b ⊢;obtain⟨v,n,q,o,rfl,rfl,⟨i,l⟩,k⟩:=b;refine⟨v,n,q,o,rfl,rfl,⟨i.re (λg j=>e g (by simp[j])) (a.imp (λh=>by simp[RV.closed]at h;exact h.1) id),l⟩,jr.re k (λg j=>e g (by simp[j])) (a.imp (λh=>by simp at h ⊢;exact h.2) id)⟩
theorem ml.re{h m:Nat->Nat}:∀{c:M A} {p:M Value} {F:M Nat},ml h w c p F->(∀g∈F,m g=h g)->(c.all A.closed=I\/∀g,h g<=m g)->ml m w c p F
 |[],_,_,a,_,_=>by simpa only [ml] using a
 | .val B cs::c,_,_,a,b,e=>by
  simp only[ml,AR]at a ⊢;obtain⟨v,n,q,o,rfl,rfl,⟨i,l,k⟩,j⟩:=a;exact⟨v,n,q,o,rfl,rfl,⟨i,l.re (λg d=>b g (by simp[d])) (e.imp (λh=>by simp only[bJ,af,A.closed]at h;exact h.1) id),k⟩,ml.re j (λg d=>b g (by simp[d])) (e.imp (λh=>by simp only[bJ,af]at h;exact h.2) id)⟩
 | .box cs::c,_,_,a,b,e=>by
  simp only[ml,AR]at a ⊢;obtain⟨v,n,q,o,rfl,rfl,⟨g,T,i,r,t,x,l,rfl,k⟩,j⟩:=a;refine⟨v,n,g::r,o,rfl,rfl,⟨g,T,i,r,t,x,by rw[b g (by simp)];exact l,rfl,k.re (λy s=>b y (by simp[s])) (e.imp (λh=>by simp only[bJ,af,A.closed]at h;exact h.1) id)⟩,ml.re j (λg d=>b g (by simp[d])) (e.imp (λh=>by simp only[bJ,af]at h;exact h.2) id)⟩
theorem AR.ptr{h:Nat->Nat}{a:A}{g:Nat}{F:M Nat}(i:AR h w a (.pointer (Z ⟨g,0,O⟩)) F):(∃b,a=.box b)/\h g=0/\g∈F:=by
 cases a with
 |val s b=>
  simp only[AR]at i;obtain⟨o,l,q,k⟩:=i;cases s with
  |true=>cases q rfl
  |false=>
   have:=k rfl;subst this;cases b with
   |nil=>simp[jr]at l
   |cons r t=>
    simp only[jr]at l;obtain⟨v,B,D,C,e,_,j,_⟩:=l;simp only[bZ]at e;rw[<- e.1]at j;cases r with
    |d x=>
     obtain⟨_,G,m,_⟩:=j;have:=m.rW;cases x<;>simp[Rp]at m
    |row x=>
     obtain⟨A,n,c,p⟩:=j.1.slice;cases p
 |box b=>
  simp only[AR]at i;obtain⟨y,T,o,H,e,_,k,rfl,_⟩:=i;simp only[Value.pointer.injEq,aa,Addr.mk.injEq,and_true]at e;subst e;exact⟨⟨b,rfl⟩,k,by simp⟩
theorem ml.ptr{h:Nat->Nat}:∀{as:M A} {i:M Value} {F:M Nat},ml h w as i F->∀g,Value.pointer (Z ⟨g,0,O⟩)∈i->h g=0/\g∈F
 |[],_,_,c,g,b=>by simp only[ml]at c;rw[c.1]at b;simp at b
 |a::as,_,_,c,g,b=>by
  simp only[ml]at c;obtain⟨v,l,n,m,rfl,rfl,k,j⟩:=c;rcases aP.1 b with rfl|b
  ·obtain⟨_,e,d⟩:=k.ptr;exact⟨e,by simp[d]⟩
  ·obtain⟨e,d⟩:=ml.ptr j g b;exact⟨e,by simp[d]⟩
def FZ(β:Nat->Nat):M C->M Value->Prop
 |[],a=>a=[]
 |c::cs,a=>∃v d,a=v::d/\(∀b,c=.ptr b 0->v=.pointer (Z ⟨β b,0,O⟩))/\FZ β cs d
theorem fF.Tf{d:Gh}:∀{a:M C} {g:M Value},fF d w a g->FZ d.β a g
 |[],_,h=>by simpa only [fF,FZ] using h
 |c::a,_,h=>by
  simp only[fF]at h;obtain⟨v,k,rfl,j,i⟩:=h;simp only[FZ];exact⟨v,k,rfl,λb e=>by subst e;simpa only [CR] using j,fF.Tf i⟩
theorem Bg:∀(m:M C) {as outs:M A} {vs:M Value} {F:M Nat} {j:Gh} {s s':St},Inv j h0 io w0 s f w->FZ j.β m vs->vu s' m=Z as->ml j.h w outs (gq as vs) F->F.Nodup->(∀g∈F,(j.ω g=.free\/j.ω g=.fP\/Value.pointer (Z ⟨g,0,O⟩)∈gq as vs)/\g < w.heap.size/\(w0.heap.size<=g\/g∈io))->
  (∀b∈cO m,j.ω (j.β b)=.box b)->∃k,Inv k h0 io w0 (l_ s m outs) f w/\k.β=j.β/\k.h=j.h/\∀g,g∉F->k.ω g=j.ω g
 |[],as,outs,vs,F,j,s,s',H,_,_,_,_,_,_=>⟨j,by simpa [l_] using H,rfl,rfl,λ_ _=>rfl⟩
 |c::m,as,outs,vs,F,j,s,s',H,W,p,r,N,t,q=>by
  simp only[FZ]at W;obtain⟨v,fK,rfl,x,U⟩:=W;simp only[vu]at p
  split at p
  ·rename_i a n;simp only[ak]at p;obtain⟨MV,p,rfl⟩:=p;by_cases P:∃b,c=.ptr b 0
   ·obtain⟨b,rfl⟩:=P;have nE:∃l,a=.box l:=by
     simp only[Oz]at n
     split at n
     ·simp only[ak]at n;obtain⟨l,_,rfl⟩:=n;exact⟨l,rfl⟩
     ·cases n
    obtain⟨l,rfl⟩:=nE;simp only[gq]at r t;have x:=x b rfl;cases outs with
    |nil=>simp[ml]at r
    |cons o outs=>
     simp only[ml]at r;obtain⟨v0,ovs,F1,F2,e,rfl,K,X⟩:=r;simp only[bZ]at e;obtain⟨rfl,rfl⟩:=e;rw[x]at K;obtain⟨⟨TK,rfl⟩,hz,hgm⟩:=K.ptr;simp only[AR]at K;obtain⟨g,T,us,F',e,hB,Bx,rfl,sC⟩:=K;simp only[Value.pointer.injEq,aa,Addr.mk.injEq,and_true]at e;subst e;rw[bG]at N;obtain⟨zN,Nn,L⟩:=N;obtain⟨y,S⟩:=cl.1 zN;have Ir:∀g∈F',j.ω g=.free\/j.ω g=.fP:=by
      intro g i;rcases (t g (by simp[i])).1 with h|h|h
      ·exact .inl h
      ·exact .inr h
      ·exfalso
       rcases aP.1 h with h|h
       ·rw[x]at h;simp only[Value.pointer.injEq,aa,Addr.mk.injEq,and_true]at h;exact y (h▸i)
       ·have:=(ml.ptr X g h).2;exact L g (by simp[i]) g this rfl
     obtain⟨V,i1,c1,D,B,G,s1⟩:=mT (d:=b+500) TK 0 H sC S (λg i=>⟨Ir g i,(t g (by simp[i])).2⟩);have Q:V.ω (V.β b)=.box b:=by
      rw[D,G _ y];exact q b (by simp[cO])
     have i2:=i1.gk (b:=b) (by rw[D];exact hB) Q c1;have R:∀g,g∈F2->g∉F':=λg i h=>L g (by simp[h]) g i rfl;obtain⟨lZ,i3,b3,h3,o3⟩:=Bg m (as:=MV) (outs:=outs) (vs:=fK) (F:=F2) i2 (by rw[D];exact U) p (by rw[B];exact X) Nn (λg i=>by
      obtain⟨k1,k2⟩:=t g (by simp[i]);refine⟨?_,k2⟩;rw[G g (R g i)];rcases k1 with h|h|h
      ·exact .inl h
      ·exact .inr (.inl h)
      ·rcases aP.1 h with h|h
       ·exfalso
        rw[x]at h;simp only[Value.pointer.injEq,aa,Addr.mk.injEq,and_true]at h;exact L g (by simp[h]) g i rfl
       ·exact .inr (.inr h)) (λb' lF=>by
      have Ar:=q b' (by simp[cO,lF]);rw[D,G]
      ·exact Ar
      ·intro hm;rcases Ir _ hm with h|h<;>rw[Ar]at h<;>cases h)
     refine⟨lZ,by simpa [l_] using i3,b3.trans D,h3.trans B,λg i=>?_⟩;simp only[aS,aP,not_or]at i;rw[o3 g i.2,G g i.1.2]
   ·have RT:∃Y l,a=.val Y l:=by
     unfold Oz at n
     split at n
     ·rename_i b;exact absurd ⟨b,rfl⟩ P
     ·simp only[ak]at n;obtain⟨l,_,rfl⟩:=n;exact⟨_,l,rfl⟩
    obtain⟨Y,l,rfl⟩:=RT;simp only[gq]at r t;have e:l_ s (c::m) outs=l_ s m outs:=by
     cases c with
     |ptr b o=>
      cases o with
      |zero=>exact absurd ⟨b,rfl⟩ P
      |succ o=>simp[l_]
     |_=>simp[l_]
    rw[e];exact Bg m H U p r N t (λb hb=>q b (by cases c<;>simp[cO,hb]))
  ·cases p
theorem zn{d:Nat}:∀(l:M A) {o:M Value} {F:M Nat} (q:Nat) {c:Gh} {s:St},Inv c h0 io w0 s f w->ml c.h w l o F->F.Nodup->(∀g∈F,(c.ω g=.free\/c.ω g=.fP)/\g < w.heap.size/\(w0.heap.size<=g\/g∈io))->(∀a∈l,∃x m,a=.val x m/\m.length<=30)->
  ∃b,Inv b h0 io w0 (il d q l s).2 f w/\fF b w (il d q l s).1 o/\b.β=c.β/\b.h=c.h/\∀r,(∀i,30 * q<=i->r≠um d i)->b.sl r=c.sl r
 |[],o,F,q,c,s,k,e,_,_,_=>by
  simp only[ml]at e;obtain⟨rfl,rfl⟩:=e;exact⟨c,by simpa [il] using k,by simp[il,fF],rfl,rfl,λ_ _=>rfl⟩
 |a::l,o,F,q,c,s,k,e,C,H,D=>by
  obtain⟨x,m,rfl,G⟩:=D a (by simp);simp only[ml,AR]at e;obtain⟨v,fK,F1,F2,rfl,rfl,⟨y,K,h4,h5⟩,Y⟩:=e;rw[bG]at C;obtain⟨P,Nn,Q⟩:=C;have U:=K.length;obtain⟨nC,T,c1,b1,N,S,R⟩:=sZ (d:=d) m (30 * q) k K P (λg p=>H g (by simp[p]));obtain⟨t,i2,c2,b2,L,B⟩:=zn l (q+1) T (by rw[N];exact Y) Nn (λg p=>by
   rw[S g (λh=>Q g h g p rfl)];exact H g (by simp[p])) (λa X=>D a (by simp[X]))
  have n:fF t w (er d (30 * q) m s).1 y:=by
   refine c1 t (by rw[L]) (λj W V=>B _ (λi k=>Oa (by omega)))
  refine⟨t,i2,?_,b2.trans b1,L.trans N,λr e=>?_⟩
  ·simp only[il,fF];refine⟨v,fK,rfl,?_,c2⟩;cases x with
   |true=>
    rw[h4 rfl];simp only[if_true,CR];exact⟨y,rfl,n⟩
   |false=>
    simp only[aC,if_false];have:=h5 rfl;subst this;exact At n
  ·rw[B r (λi k=>e i (by omega)),R r (λi k=>e i k)]
end
end
end Go.Proofs.YthlpjklbafakfaaGreatDoor
