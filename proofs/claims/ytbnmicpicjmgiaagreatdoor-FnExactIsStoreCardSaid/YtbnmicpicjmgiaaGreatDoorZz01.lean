/- Part of the proof. Condition: none. -/
import Derived.WalkKit
import Derived.WalkSpells
import Derived.WalkLawsBesides
import Derived.Deep.LoopGhost
import Derived.OrdersHeld
import Derived.Lib.ItoaNum
import Derived.Lib.Bytealg
import Derived.Lib.LaidTab
import Derived.Lib.AppendZerosOnto
import Derived.Laws.Tables
set_option linter.all false
open Array renaming length_toList->jv,replicate->qw,getElem?_eq_getElem->tz,getElem?_eq_none->wC
open Bool renaming and_eq_true->aw,false_eq_true->aQ,not_eq_true'->dm,eq_iff_iff->dS,or_eq_true->eY,true->I,false->J
open Decidable renaming em->jo,decide->Z'
open Go renaming sizeOf->pc
open Int renaming neg_neg->uG
open List renaming length_map->aj,nil_append->au,cons_append->av,length_append->ay,append_nil->aG,length_nil->aJ,length_cons->aN,mem_cons->aU,replicate->aW,mem_append->aX,append_assoc->aZ,length_take->bk,take_length->bl,getElem?_eq_some_iff->bn,map_cons->bz,all_eq_true->bF,take_append_drop->cp,eq_nil_of_length_eq_zero->cx,nodup_append->cD,map_append->cE,map_nil->cO,drop_of_length_le->cS,nodup_cons->cW,length_eq_one_iff->dd,all_cons->dt,mem_map->dv,mem_map_of_mem->dH,mem_of_mem_take->ed,getElem?_append_left->eH,length_eq_zero_iff->eZ,getElem?_take->fQ,mem_of_getElem?->fR,ext_getElem?->gu,replicate_succ->ir,getElem?_append_right->jQ,length_drop->kO,take_left->n9,map_congr_left->qC,getElem?_eq_none->xM,drop_drop->zn,getElem?_append->zr
open Nat renaming le_refl->aH,le_trans->aS,zero_le->bI,zero_add->bN,lt_of_lt_of_le->bZ,add_zero->dY,lt_or_ge->dZ,mul_le_mul_right->eK,blt->eP,beq->gH,add_assoc->ij,ble->jZ,add_mul->mj,succ_mul->ot,min_eq_left->qD,eq_of_beq_eq_true->yc
open Ne renaming symm->ov
open Option renaming map_eq_some_iff->aC,isSome_iff_exists->cu,some->Z,none->O
open Option.some renaming injEq->bq,inj->hO
open Prod renaming fst->fS,snd->sx
open UInt8 renaming ofNat->dT
namespace Go.Proofs.YtbnmicpicjmgiaaGreatDoor
abbrev M.{v}(α:Type v):=List α
abbrev u.{v}(α:Type v):=Option α
abbrev z:=ByteArray
section
open Go.RowKit
inductive V where
 |int (n:Int)
 |bool (b:Bool)
 |str (s:ByteArray)
 |list (xs:List V)
 |agg (fs:List V)
mutual
def V.cnt:V->Nat
 | .int _=>1
 | .bool _=>1
 | .str _=>1
 | .list xs=>V.ag8 xs+1
 | .agg fs=>V.ag8 fs+1
def V.ag8:List V->Nat
 |[]=>0
 |f::fs=>V.cnt f+V.ag8 fs+1
end
def j5(w:World)(b o:Nat)(c:M Value):Prop:=∀j a,c[j]?=Z a->w.cell? ⟨b,o+j,O⟩=Z a
def rJ(b o n:Nat):(⟨b,o,O⟩:Addr).add n=⟨b,o+n,O⟩:=by unfold Addr.add;split;{rename_i h;subst h;rfl};rfl
def j5.ey{w c:World}{b o:Nat}{d:M Value}(h:j5 w b o d)(f:c.heap[b]?=w.heap[b]?):j5 c b o d:=by intro j a e;rw[World.cell?_of_block (w:=w) f];exact h j a e
def j5.sub{w:World}{b o:Nat}{d:M Value}(h:j5 w b o d)(j k:Nat):j5 w b (o+j) ((d.drop j).take k):=by intro i a c;rw[fQ]at c;split at c;{rw[List.getElem?_drop]at c;rw[ij];exact h _ a c};cases c
def JE{w:World}{b:Nat}{o:Obj}(h:w.heap[b]?=Z o):b<w.heap.size:=by rcases dZ b w.heap.size with a|a;{exact a};simp[wC a]at h
def LY{w a:World}{b:Nat}(d:b<w.heap.size)(c:a.heap[b]?=w.heap[b]?):b<a.heap.size:=by rw[tz d]at c;exact JE c
structure J_ (B:Nat) (w w':World):Prop extends Below B w w' where
 Sb:∀g,B<=g->∀o,w'.frozen? ⟨g,o,none⟩=false
def yq{w:World}{g:Nat}(h:w.heap.size<=g)(o:Nat):w.frozen? ⟨g,o,O⟩=J:=by simp[World.frozen?,wC h]
def Y1(w:World):J_ w.heap.size w w:=⟨Below.refl _ _,λ_ a o=>yq a o⟩
theorem J_.drew{B:Nat}{a w:World}(h:J_ B a w):J_ B a w.drew:=⟨h.toBelow.drew,h.Sb⟩
def Y0{B:Nat}{a w d:World}(h:J_ B a w)(c:J_ w.heap.size w d)(hB:B<=w.heap.size):J_ B a d:=by refine⟨h.toBelow.trans (c.toBelow.mono hB),λg e o=>?_⟩;rcases dZ g w.heap.size with b|b;{rw[World.frozen?_of_block (w:=w) (c.block g b)];exact h.Sb g e o};exact c.Sb g b o
def IM(w:World)(a:Array Value)(t:TypeId):J_ w.heap.size w (w.alloc (.cells a t)):=by refine⟨(Below.refl _ _).alloc (aH _) _,λg b o=>?_⟩;by_cases e:g=w.heap.size;{subst e;unfold World.frozen?;simp only[heap_alloc_new];simp};exact yq (by simp;omega) o
def mP(w:World)(g:Nat)(t:TypeId)(a:M Value):Prop:=w.heap[g]?=Z (.cells a.toArray t (0,0))
def ji(w:World)(g:Nat)(o:Obj):World:={w with heap:=w.heap.setIfInBounds g o }
section
variable {w w':World} {g:Nat} {t:TypeId} {cs:M Value}
theorem mP.lt(h:mP w g t cs):g<w.heap.size:=JE h
theorem mP.cell(h:mP w g t cs)(i:Nat):w.cell? ⟨g,i,O⟩=cs[i]?:=by unfold mP at h;simp[World.cell?,h]
theorem mP.Xh(h:mP w g t cs):j5 w g 0 cs:=by intro j a b;rw[bN,h.cell,b]
theorem mP.frozen(h:mP w g t cs)(i:Nat):w.frozen? ⟨g,i,O⟩=J:=by unfold mP at h;simp[World.frozen?,h]
theorem mP.new(w:World)(t:TypeId)(cs:M Value):mP (w.alloc (.cells cs.toArray t)) w.heap.size t cs:=by unfold mP;exact heap_alloc_new w _
theorem mP.ey(h:mP w g t cs)(a:w'.heap[g]?=w.heap[g]?):mP w' g t cs:=a.trans h
theorem mP.alloc(h:mP w g t cs)(o:Obj):mP (w.alloc o) g t cs:=h.ey (Below.heap_alloc w o g h.lt)
theorem VI(w:World)(g:Nat)(o:Obj)(k:Nat)(h:k≠g):(ji w g o).heap[k]?=w.heap[k]?:=by simp[ji,Array.getElem?_setIfInBounds_ne (ov h)]
theorem iF(w:World)(g:Nat)(o:Obj):(ji w g o).heap.size=w.heap.size:=by simp[ji]
theorem mP.mF(h:mP w g t cs)(a:TypeId)(b:M Value):mP (ji w g (.cells b.toArray a (0,0))) g a b:=by unfold mP ji;simp[h.lt]
theorem Pg(h:mP w g t cs)(i:Nat)(v:Value):w.setCell ⟨g,i,O⟩ v=ji w g (.cells (cs.set i v).toArray t (0,0)):=by unfold World.setCell ji;congr 1;apply Array.ext;{simp};intro k a c;simp only[Array.size_modify]at a;simp only[Array.getElem_modify];split;{rename_i e;subst e;have b:w.heap[g]'a=.cells cs.toArray t (0,0):=by{have:=h;unfold mP at this;rw[tz a]at this;exact hO this};rw[b];simp};rename_i e;rw[Array.getElem_setIfInBounds_ne _ e]
end
theorem mP.drew{w:World}{g:Nat}{t:TypeId}{a:M Value}(h:mP w g t a):mP w.drew g t a:=h
def size_alloc(w:World)(o:Obj):(w.alloc o).heap.size=w.heap.size+1:=by simp
end
section
open Go.RowKit
abbrev Fm:=Nat->Value
def ID(f:Fm)(d:Nat)(v:Value):Fm:=λi=>cond (gH i d) v (f i)
def fr(f:Fm)(N:Nat):Act:=⟨Array.ofFn (λi:Fin N=>f i.val),[]⟩
def rR f(N d:Nat)v:(fr f N).put (Z d) v=fr (ID f d v) N:=by have e:(Array.ofFn (λi:Fin N=>f i.val)).setIfInBounds d v=Array.ofFn (λi:Fin N=>ID f d v i.val):=by{apply Array.ext;{simp};intro i g a;simp at a;rw[Array.getElem_setIfInBounds (by simpa using a)];simp only[ID];by_cases h:d=i;{subst h;simp};have c:gH i d=J:=by{cases b:gH i d;{rfl};exact absurd (yc b).symm h};simp[h,c]};exact congrArg (λt=>Act.mk t []) e
def Tq f{N d}(hd:d<N):(fr f N).eval (.tmp d)=f d:=by simp[fr,Act.eval,hd]
def et{f N d v}(h:f d=v)(hd:eP d N=I:=by rfl):(fr f N).eval (.tmp d)=v:=by rw[Tq f (by simpa using hd)];exact h
theorem ec{f N v}:(fr f N).eval (.const v)=v:=rfl
theorem ef{f N g}:(fr f N).eval (.func g)=.func (.func g) #[] #[]:=rfl
def pst(N:Nat)(c:Fm->World->Prop)(d:Nat->Fm->World->Prop)(b:Fm->World->Prop):Exit->Act->World->Prop
 | .normal,a,w=>∃f,a=fr f N/\c f w
 | .exit id,a,w=>∃f,a=fr f N/\d id f w
 | .ret,a,w=>∃f,a=fr f N/\b f w
 |_,_,_=>False
def W(P:Program)(N:Nat)(c:Code)(b:Fm->World->Prop)(d:Nat->Fm->World->Prop)(a:Fm->World->Prop)(f:Fm)(w:World):Prop:=
 c.wp P (pst N b d a) (fr f N) w
def Ls(P:Program)(N:Nat)(a:Array Oper)(b:Fm->World->Prop)(rest:M Oper)(f:Fm)(w:World):Prop:=
 wpList P a (pst N b (λ_ _ _=>False) (λ_ _=>False)) rest (fr f N) w
def qU(N:Nat)(a:Array Oper)(f:Fm)(g:u (Nat×Bool)):Prop:=
 Region.wanted {(default:Oper) with guard:=g } (yielded a (fr f N).tmps)=I
theorem wn{N ops f}:qU N ops f O:=rfl
def HL{N}{a:Array Oper}{f}{j c:Nat}(d:(a[j]?).bind (·.dst)=Z c)(hd:eP c N=I)b(e:f c=.bool b):yielded a (fr f N).tmps j=Z b:=by (have g:c<N:=by simpa using hd);simp[yielded,d,fr,g,e]
def Sw{N}{a:Array Oper}{f}{j b:Nat}(c:(a[j]?).bind (·.dst)=Z b)(hd:eP b N=I)(d:f b=undef):yielded a (fr f N).tmps j=O:=by (have e:b<N:=by simpa using hd);simp[yielded,c,fr,e,d,undef]
def wy{N}{a:Array Oper}{f}{j b:Nat}{want}(d:f b=.bool want)(c:(a[j]?).bind (·.dst)=Z b:=by rfl)(hd:eP b N=I:=by rfl):qU N a f (Z (j,want)):=by simp[qU,Region.wanted,HL c hd want d]
def qU.to{N ops f gd}(h:qU N ops f gd)dst op ty pos a:Region.wanted ⟨dst,op,ty,pos,a,gd⟩ (yielded ops (fr f N).tmps)=I:=h
def jS(N:Nat)(a:Array Oper)(f:Fm)(g:u (Nat×Bool)):Prop:=
 Region.wanted {(default:Oper) with guard:=g } (yielded a (fr f N).tmps)=J
def jS.to{N ops f gd}(h:jS N ops f gd)dst op ty pos a:¬Region.wanted ⟨dst,op,ty,pos,a,gd⟩ (yielded ops (fr f N).tmps)=I:=by have b:Region.wanted ⟨dst,op,ty,pos,a,gd⟩ (yielded ops (fr f N).tmps)=J:=h;rw[b];simp
def wx{N}{a:Array Oper}{f}{j b:Nat}{want}(d:f b=.bool (!want))(c:(a[j]?).bind (·.dst)=Z b:=by rfl)(hd:eP b N=I:=by rfl):jS N a f (Z (j,want)):=by simp[jS,Region.wanted,HL c hd _ d]
def wu{N}{a:Array Oper}{f}{j b:Nat}{want}(d:f b=undef)(c:(a[j]?).bind (·.dst)=Z b:=by rfl)(hd:eP b N=I:=by rfl):jS N a f (Z (j,want)):=by simp[jS,Region.wanted,Sw c hd d]
section rules
variable {P:Program} {N:Nat} {Kn:Fm->World->Prop} {Ke:Nat->Fm->World->Prop} {Kr:Fm->World->Prop} {f:Fm} {w:World}
theorem fi{x y}(h:W P N x (λf w=>W P N y Kn Ke Kr f w) Ke Kr f w):W P N (.seq x y) Kn Ke Kr f w:=by refine wp_seq (wp_mono h ?_);intro e a w b;cases e with|normal=>{obtain⟨g,rfl,d⟩:=b;exact d}|exit id=>{exact b}|ret=>{exact b}|goto l=>{exact b.elim}|panic c=>{exact b.elim}|outgrown=>exact b.elim
theorem qv(h:Kn f w):W P N .skip Kn Ke Kr f w:=wp_skip ⟨f,rfl,h⟩
theorem wv(h:Kr f w):W P N .ret Kn Ke Kr f w:=wp_ret ⟨f,rfl,h⟩
theorem HG{id}(h:Ke id f w):W P N (.exit id) Kn Ke Kr f w:=wp_exit ⟨f,rfl,h⟩
theorem uE{c x y}(a:(fr f N).eval c=.bool I)(h:W P N x Kn Ke Kr f w):W P N (.cond c x y) Kn Ke Kr f w:=wp_cond a h
theorem su{c x y}(a:(fr f N).eval c=.bool J)(h:W P N y Kn Ke Kr f w):W P N (.cond c x y) Kn Ke Kr f w:=wp_cond a h
theorem pE{id c}(h:W P N c Kn (λb f w=>if b=id then Kn f w else Ke b f w) Kr f w):W P N (.block id c) Kn Ke Kr f w:=by refine wp_block (wp_mono h ?_);intro e a w d;cases e with|normal=>{exact d}|ret=>{exact d}|exit b=>{obtain⟨j,rfl,g⟩:=d;simp[Exit.inBlock];split at g;{rename_i i;rw[if_pos i];exact⟨j,rfl,g⟩};rename_i i;rw[if_neg i];exact⟨j,rfl,g⟩}|goto l=>{exact d.elim}|panic c=>{exact d.elim}|outgrown=>exact d.elim
theorem HH{c}(b:Nat->Fm->World->Prop)n0(o:b n0 f w)
  (round:∀n f w,b n f w->W P N c (λi j=>∃g,g<n/\b g i j) Ke Kr f w):W P N (.loop c) Kn Ke Kr f w:=by refine wp_loop_ghost (λn a w=>∃f,a=fr f N/\b n f w) n0 ⟨f,rfl,o⟩ ?_;rintro n a w ⟨f,rfl,m⟩;refine wp_mono (round n f w m) ?_;intro e a w d;cases e with|normal=>{obtain⟨i,rfl,g,k,h⟩:=d;exact⟨g,k,i,rfl,h⟩}|exit id=>{exact d}|ret=>{exact d}|goto l=>{exact d.elim}|panic c=>{exact d.elim}|outgrown=>exact d.elim
theorem cY{id l}(h:Ls P N l.toArray Kn l f w):W P N (.region id l.toArray J) Kn Ke Kr f w:=by refine wp_mono (wp_region_lit h) ?_;intro e a w b;cases e with|normal=>{exact b}|exit id=>{obtain⟨_,_,h⟩:=b;exact h.elim}|ret=>{obtain⟨_,_,h⟩:=b;exact h.elim}|goto l=>{exact b.elim}|panic c=>{exact b.elim}|outgrown=>exact b.elim
theorem sv{c m n k}(h:W P N c Kn Ke Kr f w)
  (p:∀f w,Kn f w->m f w) (q:∀i f w,Ke i f w->n i f w) (o:∀f w,Kr f w->k f w):W P N c m n k f w:=by refine wp_mono h ?_;intro e a w b;cases e with|normal=>{obtain⟨j,g,d⟩:=b;exact⟨j,g,p _ _ d⟩}|exit id=>{obtain⟨j,g,d⟩:=b;exact⟨j,g,q _ _ _ d⟩}|ret=>{obtain⟨j,g,d⟩:=b;exact⟨j,g,o _ _ d⟩}|goto l=>{exact b.elim}|panic c=>{exact b.elim}|outgrown=>exact b.elim
variable {ops:Array Oper} {rest:M Oper} {d:Nat} {op:Op} {ty:TypeId} {pos:String} {aft:Array Edge} {gd:u (Nat×Bool)}
theorem fF(h:Kn f w):Ls P N ops Kn [] f w:=⟨f,rfl,h⟩
theorem Co(a:jS N ops f gd)(h:Ls P N ops Kn rest (ID f d undef) w):Ls P N ops Kn (⟨Z d,op,ty,pos,aft,gd⟩::rest) f w:=by unfold Ls wpList;rw[if_neg (a.to _ _ _ _ _),rR];exact h
theorem aeh(a:jS N ops f gd)(h:Ls P N ops Kn rest f w):Ls P N ops Kn (⟨O,op,ty,pos,aft,gd⟩::rest) f w:=by unfold Ls wpList;rw[if_neg (a.to _ _ _ _ _)];exact h
theorem enter{g fn c args R}(m:P.funcs[g]?=Z fn)(n:fn.body=Z c)(q:fn.ntmps=N)(o:jZ args.size N=I)
  (h:W P N c (λf w=>∃v,(results fn (fr f N).tmps).run P w=.ok v w/\R (.returned v) w) (λ_ _ _=>False) (λf w=>∃v,(results fn (fr f N).tmps).run P w=.ok v w/\R (.returned v) w) (λi=>args.getD i undef) w) :
  Calls P g args w R:=by refine calls_of_wp m n ?_;have e:({tmps:=args++qw (fn.ntmps - args.size) undef,defers:=[] }:Act)=fr (λi=>args.getD i undef) N:=by{congr 1;(have r:args.size<=N:=by simpa using o);apply Array.ext;{simp;omega};intro i k j;simp[Array.getElem_append];split<;>simp_all};rw[e];refine wp_mono h ?_;intro e a w b;cases e with|normal=>{obtain⟨p,rfl,v,k,j⟩:=b;exact⟨rfl,v,k,j⟩}|exit id=>{obtain⟨_,_,h⟩:=b;exact h.elim}|ret=>{obtain⟨p,rfl,v,k,j⟩:=b;exact⟨rfl,v,k,j⟩}|goto l=>{exact b.elim}|panic c=>{exact b.elim}|outgrown=>exact b.elim
end rules
section drawn
variable {P:Program} {N:Nat} {Kn:Fm->World->Prop} {Ke:Nat->Fm->World->Prop} {Kr:Fm->World->Prop} {f:Fm} {w:World} {ops:Array Oper} {S:World->Prop}
def Zg(ops:Array Oper):M (Nat×Bool)->Array Bool->Bool
 |[],listed=>(Region.ready .any ops listed).isEmpty
 |(i,quiet)::s,listed=>(Region.ready .any ops listed).contains i && (if quiet then Region.free .any ops listed i else Region.ready .any ops listed ==[i]) && Zg ops s (listed.setIfInBounds i I)
variable {s:M (Nat×Bool)} {i d:Nat} {op:Op} {ty:TypeId} {pos:String} {aft:Array Edge} {gd:u (Nat×Bool)}
end drawn
section ops
variable {P:Program} {ρ:Operand->Value} {w:World} {dst:u Tmp} {ty:TypeId} {pos:String} {aft:Array Edge} {gd:u (Nat×Bool)}
theorem eu{x v}(a:ρ x=v):(execOp ρ ⟨dst,.move x,ty,pos,aft,gd⟩).run P w=.ok (.value v) w:=by subst a;rfl
theorem fp{x v}(a:ρ x=v):(execOp ρ ⟨dst,.assign x,ty,pos,aft,gd⟩).run P w=.ok (.value v) w:=by subst a;rfl
theorem PT{c x y v}(b:ρ c=.bool I)(a:ρ x=v):(execOp ρ ⟨dst,.pick c x y,ty,pos,aft,gd⟩).run P w=.ok (.value v) w:=by simp[execOp,b,a,asBool]
theorem PS{c x y v}(b:ρ c=.bool J)(a:ρ y=v):(execOp ρ ⟨dst,.pick c x y,ty,pos,aft,gd⟩).run P w=.ok (.value v) w:=by simp[execOp,b,a,asBool]
theorem agQ{x b T}(a:ρ x=.bool b):(execOp ρ ⟨dst,.unOp .not T x,ty,pos,aft,gd⟩).run P w=.ok (.value (.bool (!b))) w:=by simp[execOp,a,Op.unary]
theorem SN(a b:Int):(a ==b)=Z' (a=b):=by grind
section int
variable {x y:Operand} {a b:Int} {T T':TypeId} {ik:IntKind}
theorem A9{r}(d:ρ x=.int ik a)(c:ρ y=.int ik b)(e:Z' (a<b)=r):(execOp ρ ⟨dst,.binOp .lss T x y T',ty,pos,aft,gd⟩).run P w=.ok (.value (.bool r)) w:=by subst e;simp[execOp,d,c,binOp,Op.intCmp,eqGuard]
theorem ap8{r}(d:ρ x=.int ik a)(c:ρ y=.int ik b)(e:Z' (a<=b)=r):(execOp ρ ⟨dst,.binOp .leq T x y T',ty,pos,aft,gd⟩).run P w=.ok (.value (.bool r)) w:=by subst e;simp[execOp,d,c,binOp,Op.intCmp,eqGuard]
theorem ap7{r}(d:ρ x=.int ik a)(c:ρ y=.int ik b)(e:Z' (b<a)=r):(execOp ρ ⟨dst,.binOp .gtr T x y T',ty,pos,aft,gd⟩).run P w=.ok (.value (.bool r)) w:=by subst e;simp[execOp,d,c,binOp,Op.intCmp,eqGuard]
theorem ado{r}(d:ρ x=.int ik a)(c:ρ y=.int ik b)(e:Z' (b<=a)=r):(execOp ρ ⟨dst,.binOp .geq T x y T',ty,pos,aft,gd⟩).run P w=.ok (.value (.bool r)) w:=by subst e;simp[execOp,d,c,binOp,Op.intCmp,eqGuard]
theorem ap6{r}(d:ρ x=.int ik a)(c:ρ y=.int ik b)(e:Z' (a=b)=r):(execOp ρ ⟨dst,.binOp .eql T x y T',ty,pos,aft,gd⟩).run P w=.ok (.value (.bool r)) w:=by subst e;simp[execOp,d,c,binOp,Op.intCmp,eqGuard];exact SN a b
theorem ap9{r}(d:ρ x=.int ik a)(c:ρ y=.int ik b)(e:Z' (a=b)=!r):(execOp ρ ⟨dst,.binOp .neq T x y T',ty,pos,aft,gd⟩).run P w=.ok (.value (.bool r)) w:=by (have:r=!Z' (a=b):=by rw[e];simp);subst this;simp[execOp,d,c,binOp,Op.intCmp,eqGuard,bne];exact SN a b
theorem J8(d:ρ x=.int .i64 a)(c:ρ y=.int .i64 b)(e:-9223372036854775808<=a+b/\a+b<=9223372036854775807):(execOp ρ ⟨dst,.binOp .add T x y T',ty,pos,aft,gd⟩).run P w=.ok (.value (.int .i64 (a+b))) w:=by simp[execOp,d,c,binOp,Op.intArith,eqGuard];exact IntWalk.i64_in _ (by omega)
end int
theorem om(a b:z):(a.toList ==b.toList)=Z' (a=b):=by rw[dS];simp[ByteArray.toList_eq];constructor;cases a;simp_all;rintro rfl;rfl
section str
variable {x y:Operand} {a b:z} {T T':TypeId}
theorem aku{r}(d:ρ x=.string a)(c:ρ y=.string b)(e:Z' (a=b)=r):(execOp ρ ⟨dst,.binOp .eql T x y T',ty,pos,aft,gd⟩).run P w=.ok (.value (.bool r)) w:=by subst e;simp[execOp,d,c,binOp,Op.stringOp,eqGuard,om]
theorem akw{r}(d:ρ x=.string a)(c:ρ y=.string b)(e:Z' (a=b)=!r):(execOp ρ ⟨dst,.binOp .neq T x y T',ty,pos,aft,gd⟩).run P w=.ok (.value (.bool r)) w:=by (have:r=!Z' (a=b):=by rw[e];simp);subst this;simp[execOp,d,c,binOp,Op.stringOp,eqGuard,om]
end str
section nN
variable {x y:Operand} {a b:Bool} {T T':TypeId}
theorem aks{r}(g:P.underlying T=Z .bool)(d:ρ x=.bool a)(c:ρ y=.bool b)(f:Z' (a=b)=r):(execOp ρ ⟨dst,.binOp .eql T x y T',ty,pos,aft,gd⟩).run P w=.ok (.value (.bool r)) w:=by (have e:(a ==b)=r:=by subst f;cases a<;>rfl);simp[execOp,d,c,eqGuard,run_eql_bool w T a b g,e]
theorem akt{r}(f:P.underlying T=Z .bool)(d:ρ x=.bool a)(c:ρ y=.bool b)(g:Z' (a=b)=!r):(execOp ρ ⟨dst,.binOp .neq T x y T',ty,pos,aft,gd⟩).run P w=.ok (.value (.bool r)) w:=by (have e:(a ==b)=!r:=by cases a<;>simp_all);simp[execOp,d,c,eqGuard,run_neq_bool w T a b f,e]
end nN
theorem HK{x A n c T a}(d:P.underlying T=Z (.slice a))(b:ρ x=.slice A n c):
  (execOp ρ ⟨dst,.call {callee:=.builtin .len,args:=#[x],argTypes:=#[T] },ty,pos,aft,gd⟩).run P w=.ok (.value (.int .i64 n)) w:=by simp[execOp,resolve,invoke,builtin,Builtin.len_,b,run_underlying d,goInt]
theorem akv{x s T}(b:P.underlying T=Z .string)(a:ρ x=.string s):
  (execOp ρ ⟨dst,.call {callee:=.builtin .len,args:=#[x],argTypes:=#[T] },ty,pos,aft,gd⟩).run P w=.ok (.value (.int .i64 s.size)) w:=by simp[execOp,resolve,invoke,builtin,Builtin.len_,a,run_underlying b,goInt]
theorem rE{x y b o n c}{i:Nat}{a T d k}(j:P.underlying T=Z (.slice d))(l:∀w,(pc d).run P w=.ok k w)(f:ρ x=.slice (Z ⟨b,o,O⟩) n c)(e:ρ y=.int .i64 a)(h:a=(i))(g:i<n):
  (execOp ρ ⟨dst,.indexAddr T x y,ty,pos,aft,gd⟩).run P w=.ok (.value (.pointer (Z ⟨b,o+i * k,O⟩))) w:=by subst h;(have m:(0:Int)<=(i:Int)/\(i:Int)<(n:Int):=by omega);simp[execOp,Instr.indexAt,f,e,asIntOf,run_underlying j,l,rJ,g]
def bY(s:z)(i:Nat):Int:=((s[i]?.getD 0).toNat:Int)
theorem mH s i:0<=bY s i/\bY s i<=255:=by unfold bY;have:=(s[i]?.getD 0).toNat_lt;omega
theorem adp{x y s}{i:Nat}{a T}(f:P.underlying T=Z .string)(c:ρ x=.string s)(b:ρ y=.int .i64 a)(e:a=(i))(d:i<s.size):
  (execOp ρ ⟨dst,.index T x y,ty,pos,aft,gd⟩).run P w=.ok (.value (.int .u8 (bY s i))) w:=by subst e;simp[execOp,Instr.index,c,b,asIntOf,run_underlying f,bY,d]
theorem afV{x b o j k T fs i fd}(d:P.underlying T=Z (.struct fs))(f:fs[i]?=Z fd)(e:∀w,(pc fd.type).run P w=.ok (k+1) w)(c:fd.offset=j)(a:ρ x=.pointer (Z ⟨b,o,O⟩)):
  (execOp ρ ⟨dst,.fieldAddr T x i,ty,pos,aft,gd⟩).run P w=.ok (.value (.pointer (Z ⟨b,o+j,O⟩))) w:=by subst c;simp[execOp,Instr.fieldAt,a,Instr.sureAddr,run_underlying d,f,fieldPlace,e,rJ]
theorem Su{x y A}{n c h:Nat}{a T d k}(l:P.underlying T=Z (.slice d))(m:∀w,(pc d).run P w=.ok k w)(g:ρ x=.slice A n c)(f:ρ y=.int .i64 a)(j:a=(h))(i:h<=c):
  (execOp ρ ⟨dst,.slice T x O (Z y) O,ty,pos,aft,gd⟩).run P w=.ok (.value (.slice A h c)) w:=by subst j;(have e:A.map (λb=>b.add 0)=A:=by cases A<;>simp[Addr.add]);simp[execOp,Instr.sliceAt,Instr.slice,Instr.sliceBounds,Instr.sliceBound,g,f,asIntOf,run_underlying l,m,i,e]
def P0(ρ:Operand->Value):u Operand->Nat->Nat->Prop
 |none,a,m=>m=a
 |some y,_,m=>ρ y=.int .i64 (m:Int)
theorem adq{x m g A n c l h T b k}(i:P.underlying T=Z (.slice b))(j:∀w,(pc b).run P w=.ok k w)(f:ρ x=.slice A n c)(d:P0 ρ m 0 l)(e:P0 ρ g n h)(p:l<=h)(o:h<=c):
  (execOp ρ ⟨dst,.slice T x m g O,ty,pos,aft,gd⟩).run P w=.ok (.value (.slice (if c=l then A else A.map (λa=>a.add (l * k))) (h - l) (c - l))) w:=by cases m with|none=>{cases g with|none=>{simp[P0]at d e;subst d e;simp[execOp,Instr.sliceAt,Instr.slice,Instr.sliceBounds,f,run_underlying i,j]}|some a=>simp[P0]at d e;subst d;simp[execOp,Instr.sliceAt,Instr.slice,Instr.sliceBounds,Instr.sliceBound,f,e,asIntOf,run_underlying i,j,o]}|some y=>cases g with|none=>{simp[P0]at d e;subst e;simp[execOp,Instr.sliceAt,Instr.slice,Instr.sliceBounds,Instr.sliceBound,f,d,asIntOf,run_underlying i,j,p]}|some a=>simp[P0]at d e;simp[execOp,Instr.sliceAt,Instr.slice,Instr.sliceBounds,Instr.sliceBound,f,d,e,asIntOf,run_underlying i,j,p,o]
theorem adr{x g e t l h T}(f:P.underlying T=Z .string)(d:ρ x=.string t)(b:P0 ρ g 0 l)(c:P0 ρ e t.size h)(j:l<=h)(i:h<=t.size):
  (execOp ρ ⟨dst,.slice T x g e O,ty,pos,aft,gd⟩).run P w=.ok (.value (.string (t.extract l h))) w:=by cases g with|none=>{cases e with|none=>{simp[P0]at b c;subst b c;simp[execOp,Instr.sliceAt,Instr.slice,Instr.sliceBounds,d,run_underlying f]}|some a=>simp[P0]at b c;subst b;simp[execOp,Instr.sliceAt,Instr.slice,Instr.sliceBounds,Instr.sliceBound,d,c,asIntOf,run_underlying f,i]}|some y=>cases e with|none=>{simp[P0]at b c;subst c;simp[execOp,Instr.sliceAt,Instr.slice,Instr.sliceBounds,Instr.sliceBound,d,b,asIntOf,run_underlying f,j]}|some a=>simp[P0]at b c;simp[execOp,Instr.sliceAt,Instr.slice,Instr.sliceBounds,Instr.sliceBound,d,b,c,asIntOf,run_underlying f,j,i]
theorem MJ{x b o T v}(d:∀w,(isAgg T).run P w=.ok J w)(a:ρ x=.pointer (Z ⟨b,o,O⟩))(c:w.cell? ⟨b,o,O⟩=Z v):
  (execOp ρ ⟨dst,.load T x,ty,pos,aft,gd⟩).run P w=.ok (.value v) w:=by simp[execOp,Instr.loadAt,a,Instr.sureAddr,loadVar,d,c]
theorem run_loadCellsFrom{b o}:∀e i d,j5 w b (o+i) e->(loadCellsFrom ⟨b,o,O⟩ i e.length d).run P w=.ok (d++e.toArray) w
 |[],i,d,_=>by simp[loadCellsFrom]
 |c::e,i,d,h=>by have f:=h 0 c (by simp);rw[dY]at f;have g:=run_loadCellsFrom e (i+1) (d.push c) (λj a k=>by have:=h (j+1) a (by simpa using k);rw[show o+(i+1)+j=o+i+(j+1) from by omega];exact this);simp[loadCellsFrom,rJ,f,g]
theorem MK{x b o T cs k}(f:∀w,(isAgg T).run P w=.ok I w)(e:∀w,(pc T).run P w=.ok k w)(a:ρ x=.pointer (Z ⟨b,o,O⟩))(c:cs.length=k)(d:j5 w b o cs):
  (execOp ρ ⟨dst,.load T x,ty,pos,aft,gd⟩).run P w=.ok (.value (.agg cs.toArray)) w:=by subst c;have h:=run_loadCellsFrom (P:=P) (w:=w) (b:=b) (o:=o) cs 0 #[] (by simpa using d);simp[execOp,Instr.loadAt,a,Instr.sureAddr,loadVar,f,e,loadCells,h]
def one:Value->Bool
 | .agg _=>J
 | .tuple _=>J
 |_=>I
theorem Hh{g i t cs v}{b:Type}(k:Sem b)(a:mP w g t cs)(c:i<cs.length)(f:one v=I):
  (Sem.store .plain ⟨g,i,O⟩ v k).run P w=k.run P (ji w g (.cells (cs.set i v).toArray t (0,0))):=by (have e:w.cell? ⟨g,i,O⟩=Z cs[i]:=by rw[a.cell];simp);have d:=a.frozen i;rw[<- Pg a];cases v<;>simp_all[Sem.run,one]
theorem afW{x y g o T t cs v}(f:∀w,(pc T).run P w=.ok 1 w)(b:ρ x=.pointer (Z ⟨g,o,O⟩))(a:ρ y=v)(h:one v=I)(e:mP w g t cs)(c:o<cs.length):
  (execOp ρ ⟨dst,.store T x y,ty,pos,aft,gd⟩).run P w=.ok .skip (ji w g (.cells (cs.set o v).toArray t (0,0))):=by (have d:v.cells=#[v]:=by cases v<;>simp_all[Value.cells,one]);simp[execOp,Instr.storeAt,b,a,Instr.sureAddr,storeVar,f,d,storeCells,store,Addr.add,Hh _ e c h]
def eE(a:M Value)(i:Nat)(vs:M Value):M Value:=a.take i++vs++a.drop (i+vs.length)
theorem JZ w g o a:ji (ji w g o) g a=ji w g a:=by simp[ji]
theorem Df cs i v vs(h:i+(vs.length+1)<=cs.length):eE (cs.set i v) (i+1) vs=eE cs i (v::vs):=by unfold eE;apply gu;simp[zr,List.getElem?_cons];grind
theorem nC{g t o}:∀vs i w b,mP w g t b->o+i+vs.length<=b.length->(∀v∈vs,one v=I)->
  (storeCells ⟨g,o,O⟩ vs i).run P w=.ok () (ji w g (.cells (eE b (o+i) vs).toArray t (0,0)))
 |[],i,w,b,d,_,_=>by have:ji w g (.cells (eE b (o+i) []).toArray t (0,0))=w:=by{have c:=d;unfold mP at c;simp[eE,cp];unfold ji;have:w.heap.setIfInBounds g (.cells b.toArray t (0,0))=w.heap:=by{apply Array.ext;{simp};intro k f n;rw[Array.getElem_setIfInBounds];split;{rename_i e;subst e;rw[tz n]at c;exact (hO c).symm};rfl};rw[this]};simp[storeCells,this]
 |v::vs,i,w,b,d,m,f=>by simp at m;(have l:(b.set (o+i) v).length=b.length:=by simp);have h:=nC (o:=o) vs (i+1) (ji w g (.cells (b.set (o+i) v).toArray t (0,0))) (b.set (o+i) v) (d.mF t _) (by rw[l];omega) (λa j=>f a (by simp[j]));rw[JZ,show o+(i+1)=o+i+1 from by omega,Df b (o+i) v vs (by omega)]at h;simp[storeCells,store,rJ];have c:=Hh (P:=P) (Sem.pure ()) d (show o+i<b.length by omega) (f v (by simp));simp[c,Result.andThen_ok];exact h
theorem zm{F as ts vs}(c:∀args w,(callFunc F args).run P w=.ok (.enter F args) w)(b:ρ (.func F)=.func (.func F) #[] #[])(a:as.map ρ=vs):
  (execOp ρ ⟨dst,.call {callee:=.value (.func F),args:=as,argTypes:=ts },ty,pos,aft,gd⟩).run P w=.ok (.enter F vs) w:=by subst a;simp[execOp,resolve,Deferred.ofValue,b,invoke,c]
theorem a1{x a}(h:ρ x=a):(#[x]:Array Operand).map ρ=#[a]:=by simp[h]
theorem a2{x y a v}(h:ρ x=a)(b:ρ y=v):(#[x,y]:Array Operand).map ρ=#[a,v]:=by simp[h,b]
theorem a3{x y a b v q}(h:ρ x=b)(d:ρ y=v)(c:ρ a=q):(#[x,y,a]:Array Operand).map ρ=#[b,v,q]:=by simp[h,d,c]
theorem a4{x y a t b v q r}(h:ρ x=b)(e:ρ y=v)(d:ρ a=q)(c:ρ t=r):(#[x,y,a,t]:Array Operand).map ρ=#[b,v,q,r]:=by simp[h,e,d,c]
theorem a5{x y a t s b v q r p}(h:ρ x=b)(f:ρ y=v)(e:ρ a=q)(d:ρ t=r)(c:ρ s=p):(#[x,y,a,t,s]:Array Operand).map ρ=#[b,v,q,r,p]:=by simp[h,f,e,d,c]
theorem X8{x vs i v}(a:ρ x=.tuple vs)(b:vs[i]?=Z v):(execOp ρ ⟨dst,.extract x i,ty,pos,aft,gd⟩).run P w=.ok (.value v) w:=by simp[execOp,Instr.extract,a,b]
end ops
def S7{p:Prop}[Decidable p](h:p):decide p=I:=by simp[h]
def S6{p:Prop}[Decidable p](h:¬p):decide p=J:=by simp[h]
def X7{k a b}(h:a=b):Value.int k a=Value.int k b:=by rw[h]
section atk
variable {P:Program} {N:Nat} {f:Fm} {w:World} {fn:Func}
theorem ya{t v}(h:fn.results=#[.tmp t])(a:f t=v)(b:eP t N=I:=by rfl):(results fn (fr f N).tmps).run P w=.ok v w:=by (have c:t<N:=by simpa using b);rw[results_tmp h];simp[fr,c,a]
end atk
def xv(P:Program)(N:Nat)(o:Oper)(f:Fm)(w:World)(K:Fm->World->Prop):Prop:=
 o.wp P (fr f N) w (λc b=>∃a,c=fr a N/\K a b) (λ_ _ _=>False)
structure YE (g:Nat) (w w':World):Prop where
 os:w'.os=w.os
 tape:w'.tape=w.tape
 output:w'.output=w.output
 size:w'.heap.size=w.heap.size
 block:∀k,k≠g->w'.heap[k]?=w.heap[k]?
 fz:∀o,w'.frozen? ⟨g,o,none⟩=false
theorem YE.ji w g cs t:YE g w (ji w g (.cells cs t (0,0))):=by refine⟨rfl,rfl,rfl,iF w g _,λk c=>VI w g _ k c,λo=>?_⟩;rcases dZ g w.heap.size with a|a;{simp[World.frozen?,Go.Proofs.YtbnmicpicjmgiaaGreatDoor.ji,a]};exact yq (by rw[iF];exact a) o
def mP.off{w a g k t cs}(h:mP w g t cs)(c:YE k w a)(b:g≠k):mP a g t cs:=h.ey (c.block g b)
section
variable {P:Program} {N:Nat} {ops:Array Oper} {Kn:Fm->World->Prop} {rest:M Oper} {f:Fm} {w:World} {o:Oper} {S:World->Prop} {s:M (Nat×Bool)} {i:Nat} {K:Fm->World->Prop}
theorem xv.akl{Q p}(h:xv P N o f w K)(k:∀b l,K b l->p (fr b N) l):o.wp P (fr f N) w p Q:=by
 unfold xv Oper.wp at h;unfold Oper.wp;generalize (execOp (fr f N).eval o).run P w=r at *;cases r with
 |ok n l=>
  cases n<;>simp[Oper.upon]at h ⊢;(case value v=>obtain⟨b,e,a⟩:=h;rw[e];exact k _ _ a);(case skip=>obtain⟨b,e,a⟩:=h;rw[e];exact k _ _ a);case defer d=>obtain⟨b,e,a⟩:=h;rw[e];exact k _ _ a
  case enter g args=>
   refine Calls.mono h λe m j=>?_;cases e with
   |returned v=>obtain⟨b,e,a⟩:=j;show p _ _;rw[e];exact k _ _ a
   |panicked c=>exact j.elim
   |outgrown=>obtain⟨_,_,h⟩:=j;exact h.elim
  case row r args=>exact Rows.mono h λv m j=>by obtain⟨b,e,a⟩:=j;rw[e];exact k _ _ a
 |halt x l=>cases x<;>simp[Oper.upon]at h
theorem dF(c:qU N ops f o.guard)(h:xv P N o f w (λd a=>Ls P N ops Kn rest d a)):Ls P N ops Kn (o::rest) f w:=by unfold Ls wpList;rw[if_pos (show Region.wanted o _=I from c)];exact .inl (h.akl λ_ _ b=>b)
end
section
variable {P:Program} {N:Nat} {f:Fm} {w:World} {K:Fm->World->Prop} {d:Nat} {ty:TypeId} {pos:String} {aft:Array Edge} {gd:u (Nat×Bool)}
theorem cA{op v}(a:(execOp (fr f N).eval ⟨Z d,op,ty,pos,aft,gd⟩).run P w=.ok (.value v) w)(h:K (ID f d v) w):xv P N ⟨Z d,op,ty,pos,aft,gd⟩ f w K:=by unfold xv Oper.wp;rw[a,Oper.upon_value];exact⟨_,rR f N d v,h⟩
theorem Cv{op v a}(b:(execOp (fr f N).eval ⟨Z d,op,ty,pos,aft,gd⟩).run P w=.ok (.value v) a)(h:K (ID f d v) a):xv P N ⟨Z d,op,ty,pos,aft,gd⟩ f w K:=by unfold xv Oper.wp;rw[b,Oper.upon_value];exact⟨_,rR f N d v,h⟩
theorem Rw{op a}(b:(execOp (fr f N).eval ⟨O,op,ty,pos,aft,gd⟩).run P w=.ok .skip a)(h:K f a):xv P N ⟨O,op,ty,pos,aft,gd⟩ f w K:=by unfold xv Oper.wp;rw[b,Oper.upon_skip];exact⟨_,rfl,h⟩
theorem yY{op g args}(b:(execOp (fr f N).eval ⟨Z d,op,ty,pos,aft,gd⟩).run P w=.ok (.enter g args) w){R}(j:Calls P g args w R)
  (h:∀e a,R e a->∃v,e=.returned v/\K (ID f d v) a):xv P N ⟨Z d,op,ty,pos,aft,gd⟩ f w K:=by unfold xv Oper.wp;rw[b,Oper.upon_enter];refine j.mono λe a i=>?_;obtain⟨v,rfl,c⟩:=h e a i;exact⟨_,rR f N d v,c⟩
theorem OX{op T cs v}(b:(execOp (fr f N).eval ⟨Z d,op,ty,pos,aft,gd⟩).run P w=.ok (.value v) (w.alloc (.cells cs.toArray T)))
  (h:∀a:World,a.heap.size=w.heap.size+1->J_ w.heap.size w a->mP a w.heap.size T cs->K (ID f d v) a):xv P N ⟨Z d,op,ty,pos,aft,gd⟩ f w K:=
 Cv b (h _ (size_alloc _ _) (IM _ _ _) (mP.new _ _ _))
end
attribute [irreducible] xv Ls W
end
section
open Go.RowKit
inductive D where
 |int (k:IntKind) (n:Int)
 |bool (b:Bool)
 |str (s:ByteArray)
 |list (k:Nat) (fl:Bool) (es:List (List D))
abbrev E(n:Int):D:=.int .i64 n
instance:Inhabited D:=⟨.bool J⟩
def D.plain:D->Bool
 | .list _ _ _=>J
 |_=>I
def flat(es:M (M D)):Prop:=∀e∈es,∀x∈e,D.plain x=I
def kR:flat []:=λ_ h=>by simp at h
abbrev Fp:=M (Nat×Nat)
mutual
def Rp(w:World):D->Value->Fp->Prop
 | .int k n,v,F=>v=.int k n/\F=[]/\k.wrap n=n
 | .bool b,v,F=>v=.bool b/\F=[]
 | .str s,v,F=>v=.string s/\F=[]/\s.size<=maxLen
 | .list k i es,v,F=>∃A n c,v=.slice A n c/\n=es.length/\n<=c/\c<=maxLen/\(i=I->flat es)/\0<k/\(∀e∈es,e.length=k)/\
   ((n=0/\F=[])\/(0<n/\∃b o g G,A=Z ⟨b,o,O⟩/\F=(b,o+n * k)::G/\iQ w es g G/\j5 w b o g))
def gK(w:World):List D->List Value->Fp->Prop
 |[],vs,F=>vs=[]/\F=[]
 |d::j,vs,F=>∃v h f a,vs=v::h/\F=f++a/\Rp w d v f/\gK w j h a
def iQ(w:World):List (List D)->List Value->Fp->Prop
 |[],vs,F=>vs=[]/\F=[]
 |e::es,vs,F=>∃v1 v2 f a,vs=v1++v2/\F=f++a/\gK w e v1 f/\iQ w es v2 a
end
def vi(F:Fp)(w b:World):Prop:=∀a∈F,∀j,j<a.2->b.cell? ⟨a.1,j,O⟩=w.cell? ⟨a.1,j,O⟩
def vi.left{F G w a}(h:vi (F++G) w a):vi F w a:=λc b=>h c (by simp[b])
def vi.right{F G w a}(h:vi (F++G) w a):vi G w a:=λc b=>h c (by simp[b])
theorem gK.length{w}:∀(a) {vs F},gK w a vs F->vs.length=a.length
 |[],_,_,h=>by simp[gK]at h;simp[h.1]
 |d::a,_,_,h=>by obtain⟨v,c,f,e,rfl,_,_,b⟩:=h;simp[gK.length a b]
theorem iQ.length{w k}:∀(es) {vs F},iQ w es vs F->(∀e∈es,e.length=k)->vs.length=es.length * k
 |[],_,_,h,_=>by simp[iQ]at h;simp[h.1]
 |e::es,_,_,h,a=>by obtain⟨v1,v2,g,f,rfl,_,d,c⟩:=h;simp only[ay,aN,gK.length e d,iQ.length es c (λx b=>a x (by simp[b])),a e (by simp),ot];omega
def j5.amF{w c b o n xs}(h:j5 w b o xs)(f:o+xs.length<=n)(e:∀j,j<n->c.cell? ⟨b,j,O⟩=w.cell? ⟨b,j,O⟩):j5 c b o xs:=by intro j a d;have g:=(bn.1 d).1;rw[e (o+j) (by omega)];exact h j a d
mutual
theorem Rp.ey{w a:World}:∀(d:D) {v:Value} {F:Fp},Rp w d v F->vi F w a->Rp a d v F
 | .int _ _,_,_,h,_=>by simpa only [Rp] using h
 | .bool _,_,_,h,_=>by simpa only [Rp] using h
 | .str _,_,_,h,_=>by simpa only [Rp] using h
 | .list k R es,_,_,h,f=>by simp only[Rp]at h ⊢;obtain⟨A,n,c,l,t,j,i,C,L,s,g⟩:=h;refine⟨A,n,c,l,t,j,i,C,L,s,?_⟩;rcases g with g|⟨N,b,o,x,G,g,K,r,y⟩;{exact .inl g};subst K;have B:=iQ.length es r s;refine .inr ⟨N,b,o,x,G,g,rfl,iQ.ey es r (λQ H=>f Q (by simp[H])),?_⟩;exact y.amF (n:=o+n * k) (by rw[B,t];exact aH _) (f (b,o+n * k) (by simp))
theorem gK.ey{w a:World}:∀(m:List D) {vs:List Value} {F:Fp},gK w m vs F->vi F w a->gK a m vs F
 |[],_,_,h,_=>by simpa only [gK] using h
 |d::m,_,_,h,f=>by simp only[gK]at h ⊢;obtain⟨v,P,q,p,l,rfl,j,i⟩:=h;exact⟨v,P,q,p,l,rfl,Rp.ey d j f.left,gK.ey m i f.right⟩
theorem iQ.ey{w a:World}:∀(es:List (List D)) {vs:List Value} {F:Fp},iQ w es vs F->vi F w a->iQ a es vs F
 |[],_,_,h,_=>by simpa only [iQ] using h
 |e::es,_,_,h,f=>by simp only[iQ]at h ⊢;obtain⟨v1,v2,q,p,l,rfl,j,i⟩:=h;exact⟨v1,v2,q,p,l,rfl,gK.ey e j f.left,iQ.ey es i f.right⟩
end
def GI{w:World}{b o v}(h:w.cell? ⟨b,o,O⟩=Z v):b<w.heap.size:=by unfold World.cell? at h;rcases dZ b w.heap.size with a|a;{exact a};simp_all
mutual
theorem Rp.lt{w:World}:∀(d:D) {v:Value} {F:Fp},Rp w d v F->∀f∈F,f.1<w.heap.size
 | .int _ _,_,_,h=>by simp only[Rp]at h;simp[h.2.1]
 | .bool _,_,_,h=>by simp only[Rp]at h;simp[h.2]
 | .str _,_,_,h=>by simp only[Rp]at h;simp[h.2.1]
 | .list k R es,_,_,h=>by simp only[Rp]at h;obtain⟨A,n,c,q,H,j,i,P,C,B,g⟩:=h;rcases g with g|⟨K,b,o,m,G,g,y,p,r⟩;{simp[g.2]};subst y;have t:=iQ.length es p B;(have s:0<m.length:=by rw[t,<- H];exact Nat.mul_pos K C);have x:=GI (r 0 m[0] (by simp[s]));intro f a;rcases aU.1 a with rfl|a;{exact x};exact iQ.lt es p f a
theorem gK.lt{w:World}:∀(l:List D) {vs:List Value} {F:Fp},gK w l vs F->∀f∈F,f.1<w.heap.size
 |[],_,_,h=>by simp only[gK]at h;simp[h.2]
 |d::l,_,_,h=>by simp only[gK]at h;obtain⟨v,Q,N,L,q,rfl,j,i⟩:=h;intro f a;rcases aX.1 a with a|a;{exact Rp.lt d j f a};exact gK.lt l i f a
theorem iQ.lt{w:World}:∀(es:List (List D)) {vs:List Value} {F:Fp},iQ w es vs F->∀f∈F,f.1<w.heap.size
 |[],_,_,h=>by simp only[iQ]at h;simp[h.2]
 |e::es,_,_,h=>by simp only[iQ]at h;obtain⟨v1,v2,N,L,q,rfl,j,i⟩:=h;intro f a;rcases aX.1 a with a|a;{exact gK.lt e j f a};exact iQ.lt es i f a
end
theorem gK.append{w}:∀(a) {es vs us F G},gK w a vs F->gK w es us G->gK w (a++es) (vs++us) (F++G)
 |[],_,_,_,_,_,h,b=>by obtain⟨rfl,rfl⟩:=h;simpa using b
 |d::a,_,_,_,_,_,h,b=>by obtain⟨v,g,f,i,rfl,rfl,e,c⟩:=h;simp;exact⟨v,_,f,_,rfl,by simp,e,gK.append a c b⟩
theorem iQ.append{w}:∀(a) {es vs us F G},iQ w a vs F->iQ w es us G->iQ w (a++es) (vs++us) (F++G)
 |[],_,_,_,_,_,h,b=>by obtain⟨rfl,rfl⟩:=h;simpa using b
 |d::a,_,_,_,_,_,h,b=>by obtain⟨v1,v2,f,g,rfl,rfl,e,c⟩:=h;simp;exact⟨v1,_,f,_,by simp,by simp,e,iQ.append a c b⟩
theorem gK.j6{w}:∀(b) {es vs F},gK w (b++es) vs F->∃v1 v2 a c,vs=v1++v2/\F=a++c/\gK w b v1 a/\gK w es v2 c
 |[],es,vs,F,h=>⟨[],vs,[],F,rfl,rfl,by simp[gK],by simpa using h⟩
 |d::b,_,_,_,h=>by obtain⟨v,m,a,c,rfl,rfl,l,k⟩:=h;obtain⟨e,g,f,G2,rfl,rfl,j,i⟩:=gK.j6 b k;exact⟨v::e,g,a++f,G2,by simp,by simp,by simp only[gK];exact⟨v,e,a,f,rfl,rfl,l,j⟩,i⟩
theorem iQ.j6{w}:∀(b) {es vs F},iQ w (b++es) vs F->∃v1 v2 a c,vs=v1++v2/\F=a++c/\iQ w b v1 a/\iQ w es v2 c
 |[],es,vs,F,h=>⟨[],vs,[],F,rfl,rfl,by simp[iQ],by simpa using h⟩
 |d::b,_,_,_,h=>by obtain⟨v1,v2,a,c,rfl,rfl,l,k⟩:=h;obtain⟨e,g,f,G2,rfl,rfl,j,i⟩:=iQ.j6 b k;exact⟨v1++e,g,a++f,G2,by simp,by simp,by simp only[iQ];exact⟨v1,e,a,f,rfl,rfl,l,j⟩,i⟩
def iQ.at_{w k es vs F}(h:iQ w es vs F)(c:∀e∈es,e.length=k){i e}(b:es[i]?=Z e):
  ∃G,gK w e ((vs.drop (i * k)).take k) G/\∀f∈G,f∈F:=by have t:=(bn.1 b).1;have o:es=es.take i++(e::es.drop (i+1)):=by{rw[<- bn.1 b |>.2,List.getElem_cons_drop,cp]};rw[o]at h;obtain⟨v1,v2,y,v,rfl,rfl,n,m⟩:=iQ.j6 _ h;obtain⟨g,r,q,G2,rfl,rfl,d,s⟩:=m;have p:v1.length=i * k:=by{rw[iQ.length _ n (λx j=>c x (ed j)),bk,qD (by omega)]};(have a:g.length=k:=by rw[gK.length _ d];exact c e (fR b));refine⟨q,?_,λf l=>by simp[l]⟩;rw[<- p,List.drop_left,<- a,n9];exact d
theorem gK.at_{w}:∀{f vs F},gK w f vs F->∀{i:Nat} {d},f[i]?=Z d->∃v G,vs[i]?=Z v/\Rp w d v G/\∀c∈G,c∈F
 |[],_,_,_,i,d,b=>by simp at b
 |x::f,_,_,h,i,d,b=>by obtain⟨v,o,n,p,rfl,rfl,m,l⟩:=h;cases i with|zero=>{cases b;exact⟨v,n,rfl,m,λc e=>by simp[e]⟩}|succ i=>obtain⟨a,G,k,j,g⟩:=gK.at_ l b;exact⟨a,G,by simpa using k,j,λc e=>by simp[g c e]⟩
theorem gK.drop{w}:∀(a) {vs F} (n),gK w a vs F->∃G,gK w (a.drop n) (vs.drop n) G/\∀b∈G,b∈F
 |a,_,F,0,h=>⟨F,by simpa using h,λ_ h=>h⟩
 |[],_,F,n+1,h=>⟨F,by simp[gK]at h;simp[gK,h.1,h.2],λ_ h=>h⟩
 |d::a,_,_,n+1,h=>by obtain⟨v,j,l,k,rfl,rfl,i,g⟩:=h;obtain⟨G,f,e⟩:=gK.drop a n g;exact⟨G,by simpa using f,λb c=>by simp[e b c]⟩
theorem gK.take{w}:∀(b) {vs F} (n),gK w b vs F->∃G,gK w (b.take n) (vs.take n) G/\∀c∈G,c∈F
 |b,_,F,0,h=>⟨[],by simp[gK],λ_ h=>by simp at h⟩
 |[],_,F,n+1,h=>⟨F,by simp[gK]at h;simp[gK,h.1,h.2],λ_ h=>h⟩
 |d::b,_,_,n+1,h=>by obtain⟨v,k,e,l,rfl,rfl,j,i⟩:=h;obtain⟨G,g,f⟩:=gK.take b n i;refine⟨e++G,?_,λc a=>?_⟩;{simp;exact⟨v,_,e,G,rfl,rfl,j,g⟩};rcases aX.1 a with a|a;{simp[a]};simp[f c a]
theorem gK.plain{w}:∀{e vs F},gK w e vs F->(∀x∈e,D.plain x=I)->F=[]
 |[],_,_,h,_=>by simp[gK]at h;exact h.2
 |d::e,_,_,h,f=>by obtain⟨v,l,p,o,rfl,rfl,a,i⟩:=h;have c:=gK.plain i (λx g=>f x (by simp[g]));have j:=f d (by simp);cases d with|list k m es=>{simp[D.plain]at j}|int k n=>{simp[Rp]at a;simp[a.2.1,c]}|bool b=>{simp[Rp]at a;simp[a.2,c]}|str s=>simp[Rp]at a;simp[a.2.1,c]
theorem iQ.plain{w}:∀{es vs F},iQ w es vs F->flat es->F=[]
 |[],_,_,h,_=>by simp[iQ]at h;exact h.2
 |e::es,_,_,h,a=>by obtain⟨v1,v2,g,f,rfl,rfl,d,c⟩:=h;rw[gK.plain d (a e (by simp)),iQ.plain c (λx b=>a x (by simp[b]))];rfl
theorem Rp.xV{w d v F}(h:Rp w d v F):one v=I:=by cases d with|int k n=>{simp[Rp]at h;rw[h.1];rfl}|bool b=>{simp[Rp]at h;rw[h.1];rfl}|str s=>{simp[Rp]at h;rw[h.1];rfl}|list k e es=>obtain⟨A,n,c,a,_⟩:=h;rw[a];rfl
theorem gK.xV{w}:∀{c vs F},gK w c vs F->∀v∈vs,one v=I
 |[],_,_,h=>by simp[gK]at h;simp[h.1]
 |d::c,_,_,h=>by obtain⟨v,g,j,i,rfl,rfl,f,e⟩:=h;intro a b;rcases aU.1 b with rfl|b;{exact f.xV};exact gK.xV e a b
theorem iQ.xV{w}:∀{es vs F},iQ w es vs F->∀v∈vs,one v=I
 |[],_,_,h=>by simp[iQ]at h;simp[h.1]
 |e::es,_,_,h=>by obtain⟨v1,v2,g,f,rfl,rfl,d,c⟩:=h;intro a b;rcases aX.1 b with b|b;{exact d.xV a b};exact iQ.xV c a b
end
structure Row where
 es:List (List D)
 k:Nat
 fl:Bool
 deep:Bool
 app:Bool
 fz:Bool
inductive C where
 |d (x:D)
 |nil (k:Nat) (fl:Bool)
 |ref (r:Nat)
 |ptr (b o:Nat)
 |pG (r k i o:Nat)
 |vc (cs:List D)
 |agg (cs:List C)
 |tv (cs:List C)
 |fn (F:Nat) (bs:List Nat)
 |wq
 |any
instance:Inhabited C:=⟨.any⟩
mutual
def C.kill(i:Nat):C->C
 | .ref r=>if r=i then .any else .ref r
 | .ptr b o=>if b=i then .any else .ptr b o
 | .pG r k a o=>if r=i then .any else .pG r k a o
 | .agg cs=>.agg (C.jU i cs)
 | .tv cs=>.tv (C.jU i cs)
 | .fn F e=>if e.contains i then .any else .fn F e
 |c=>c
def C.jU(i:Nat):List C->List C
 |[]=>[]
 |c::cs=>C.kill i c::C.jU i cs
end
inductive RV where
 |d (x:D)
 |row (r:Row)
inductive A where
 |val (agg:Bool) (cs:List RV)
 |box (cs:List RV)
structure St where
 sl:List (Nat×C)
 bx:List (Nat×List C)
 rw:List (Nat×Row)
def look{a:Type}:M (Nat×a)->Nat->u a
 |[],_=>O
 |(k,x)::l,d=>if k=d then Z x else look l d
def sy{a:Type}(l:M (Nat×a))(d:Nat):M (Nat×a):=l.filter (λp=>p.1 !=d)
def TR(i:Nat)(l:M (Nat×C)):M (Nat×C):=l.map λp=>(p.1,p.2.kill i)
def TQ(i:Nat)(l:M (Nat×M C)):M (Nat×M C):=l.map λp=>(p.1,C.jU i p.2)
def St.kill(s:St)(i:Nat):St:=⟨TR i s.sl,TQ i s.bx,s.rw⟩
def St.get(s:St)(d:Nat):C:=(look s.sl d).getD .any
def St.put(s:St)(a:u Nat)(c:C):St:=
 match a with
 |some d=>{s with sl:=(d,c)::s.sl }
 |none=>s
def St.gB(s:St)(b:Nat)(a:M C):St:={s with bx:=(b,a)::sy s.bx b }
def St.setRow(s:St)(r:Nat)(x:Row):St:={s with rw:=(r,x)::sy s.rw r }
def St.dL(s:St)(r:Nat):St:={s with rw:=sy s.rw r }
def St.j9(s:St)(b:Nat)(a:M C):St:=(s.kill b).gB b a
def St.newRow(s:St)(r:Nat)(x:Row):St:=(s.kill r).setRow r x
def vg(d j:Nat):Nat:=1000 * (d+1)+j
inductive KX where
 |s (d:Nat)
 |k (c:C)
def gF(s:St):KX->C
 | .s d=>s.get d
 | .k c=>c
def C.cells:C->M C
 | .agg cs=>cs
 |c=>[c]
def nth{a:Type}:M a->Nat->u a
 |[],_=>O
 |x::_,0=>Z x
 |_::l,i+1=>nth l i
def C.const:C->Bool
 | .d x=>D.plain x
 | .nil _ _=>I
 |_=>J
def C.cell:C->Bool
 | .d _=>I
 | .nil _ _=>I
 | .ref _=>I
 |_=>J
def HQ:St->M C->u (M D×Bool×St)
 |s,[]=>Z ([],I,s)
 |s,c::cs=>
  match c with
  | .d x=>(HQ s cs).map λ(b,e,a)=>(x::b,D.plain x && e,a)
  | .nil k f=>(HQ s cs).map λ(b,e,a)=>(.list k f []::b,e,a)
  | .ref r=>
   match look s.rw r with
   |some x=>(HQ (s.dL r) cs).map λ(b,e,a)=>(.list x.k x.fl x.es::b,x.deep && !x.fz && e,a)
   |none=>O
  |_=>O
def dc(a:M D):Bool:=a.all D.plain
def EM(k:Nat)(d:Bool):St->M C->u (M (M D)×Bool×St)
 |s,[]=>Z ([],I,s)
 |s,c::cs=>
  match HQ s c.cells with
  |some (a,g,e)=>if a.length=k/\(d=I->dc a=I) then (EM k d e cs).map λ(es,b,f)=>(a::es,g && b,f) else O
  |none=>O
def room:Nat:=140737488355328
inductive KO where
 |mv (x:KX)
 |pick (c x y:KX)
 |alloc (zs:List C)
 |box (x:KX)
 |build (zs:List C) (ps:List (Nat×Nat×KX))
 |vX (k:Nat) (fl:Bool) (xs:List KX)
 |make (k by_:Nat) (fl:Bool) (zs:List D) (x:KX)
 |ld (n:Nat) (x:KX)
 |st (n:Nat) (x y:KX)
 |fa (o:Nat) (x:KX)
 |ia (k:Nat) (x i:KX)
 |six (x i:KX)
 |bin (op:BinOp) (x y:KX)
 |Yd (op:BinOp) (x y:KX)
 |not (x:KX)
 |neg (x:KX)
 |conv (k:IntKind) (x:KX)
 |len (x:KX)
 |sln (x:KX)
 |app (k by_:Nat) (fl:Bool) (x y:KX)
 |min (x y:KX)
 |max (x y:KX)
 |ext (x:KX) (i:Nat)
 |slc (x hi:KX)
 |nck (x:KX)
 |Qt (x:KX)
 |call (f:Nat) (xs:List KX)
 |cbx (f:Nat) (xs:List KX)
 |MZ (x:KX) (lo hi:Option KX)
 |AS (k:Nat) (x:KX) (lo hi:Option KX)
 |ixa (n k:Nat) (x i:KX)
 |Kv (k:Nat) (x y:KX)
 |zro (zs:List C)
 |jn (x y:KX)
 |Xp (x:KX)
 |mkf (F:Nat) (xs:List KX)
 |fld (o:Nat) (x:KX)
 |MP (nd:Bool) (f F:Nat) (x y:KX)
structure KI where
 dst:Option Nat
 op:KO
 gd:Option (Nat×Bool)
structure KD where
 j:Nat
 q:Bool
 al:List Nat
 dn:List Nat
 i:KI
inductive KT where
 |nil
 |op (x:KD) (t:KT)
 |alt (x:KD) (t r:KT)
structure zA where
 s:List Nat
 b:List Nat
 r:List Nat
inductive K where
 |skip
 |Uz (ops:List KI) (kp:zA)
 |ZH (ops:KT) (kp:zA)
 |seq (a b:K)
 |cond (c:KX) (a b:K)
 |block (id:Nat) (a:K)
 |loop (a:K)
 |exit (id:Nat)
 |ret
 |share (r:Nat) (a:K)
 |DV (d:Nat) (a:K)
inductive Ex where
 |norm
 |exit (id:Nat)
 |ret
def Y3(op:BinOp)(k:IntKind)(a b:Int):u D:=
 match op with
 | .add=>Z (.int k (k.wrap (a+b)))
 | .sub=>Z (.int k (k.wrap (a - b)))
 | .mul=>Z (.int k (k.wrap (a * b)))
 | .lss=>Z (.bool (Z' (a<b)))
 | .leq=>Z (.bool (Z' (a<=b)))
 | .gtr=>Z (.bool (Z' (b<a)))
 | .geq=>Z (.bool (Z' (b<=a)))
 | .eql=>Z (.bool (Z' (a=b)))
 | .neq=>Z (.bool (!Z' (a=b)))
 | .quo=>if k=.i64/\0<=a/\1<=b then Z (.int k (a / b)) else if k=.i64/\a<0/\1<=b then Z (.int k (-(-a / b))) else O
 | .rem=>if k=.i64/\0<=a/\1<=b then Z (.int k (a % b)) else if k=.i64/\a<0/\1<=b then Z (.int k (-(-a % b))) else O
 | .and=>Z (.int k (k.wrap (BitVec.ofInt k.bits a &&& BitVec.ofInt k.bits b).toNat))
 | .xor=>Z (.int k (k.wrap (BitVec.ofInt k.bits a ^^^ BitVec.ofInt k.bits b).toNat))
 |_=>O
def ajN(op:BinOp)(k:IntKind)(a b:Int):u D:=
 match op with
 | .shr=>if k=.i64/\0<=b/\b<=63 then Z (.int k (a / 2 ^ b.toNat)) else O
 |_=>O
def nD(a b:z):Bool:=Op.bytesLess a.toList b.toList
def Y4(op:BinOp)(a b:z):u D:=
 match op with
 | .add=>if a.size+b.size<=maxLen then Z (.str (a++b)) else O
 | .eql=>Z (.bool (Z' (a=b)))
 | .neq=>Z (.bool (!Z' (a=b)))
 | .lss=>Z (.bool (nD a b))
 | .leq=>Z (.bool (nD a b ||decide (a=b)))
 | .gtr=>Z (.bool (!(nD a b ||decide (a=b))))
 | .geq=>Z (.bool (!nD a b))
 |_=>O
def Y2(op:BinOp)(a b:Bool):u D:=
 match op with
 | .eql=>Z (.bool (Z' (a=b)))
 | .neq=>Z (.bool (!Z' (a=b)))
 |_=>O
def U_(op:BinOp):C->C->u C
 | .d (.int k a),.d (.int c b)=>if k=c then (Y3 op k a b).map .d else (ajN op k a b).map .d
 | .d (.str a),.d (.str b)=>(Y4 op a b).map .d
 |_,_=>O
def n6(s:St):C->u RV
 | .d x=>Z (.d x)
 | .nil k a=>Z (.d (.list k a []))
 | .ref r=>(look s.rw r).map λx=>.d (.list x.k x.fl x.es)
 |_=>O
def kN(s:St):C->u RV
 | .d x=>Z (.d x)
 | .nil k a=>Z (.row ⟨[],k,a,I,I,J⟩)
 | .ref r=>(look s.rw r).map .row
 |_=>O
def ig{a β:Type}(f:a->u β):M a->u (M β)
 |[]=>Z []
 |x::xs=>match f x with
  |some y=>(ig f xs).map (y::·)
  |none=>O
def C.isAgg:C->Bool
 | .agg _=>I
 |_=>J
def Sd(s:St)(c:C):u A:=
 match c with
 | .ptr b 0=>match look s.bx b with
  |some a=>(ig (kN s) a).map .box
  |none=>O
 |c=>(ig (n6 s) c.cells).map (.val c.isAgg)
def xL(s:St):M C->u (M A)
 |[]=>Z []
 |c::cs=>match Sd s c with
  |some a=>(xL s cs).map (a::·)
  |none=>O
def rowsOf:M C->M Nat
 |[]=>[]
 | .ref r::cs=>r::rowsOf cs
 |_::cs=>rowsOf cs
def oG(s:St):C->M Nat
 | .ptr b 0=>rowsOf ((look s.bx b).getD [])
 |_=>[]
def dx(s:St):M C->M Nat
 |[]=>[]
 |c::cs=>oG s c++dx s cs
def iq:M C->M Nat
 |[]=>[]
 |c::cs=>rowsOf c.cells++iq cs
def cG:M C->M Nat
 |[]=>[]
 | .ptr b _::cs=>b::cG cs
 |_::cs=>cG cs
def RV.closed:RV->Bool
 | .d x=>D.plain x
 | .row r=>r.deep
def A.closed:A->Bool
 | .val _ cs=>cs.all RV.closed
 | .box cs=>cs.all RV.closed
def Row.share(r:Row):Row:={r with fz:=I,deep:=r.fl }
def eM(s:St):M Nat->St
 |[]=>s
 |r::rs=>match look s.rw r with
  |some x=>eM (s.setRow r x.share) rs
  |none=>eM s rs
def er(d:Nat):Nat->M RV->St->M C×St
 |_,[],s=>([],s)
 |j,.d x::cs,s=>let (l,a):=er d (j+1) cs s;(.d x::l,a)
 |j,.row r::cs,s=>let (l,a):=er d (j+1) cs (s.newRow (vg d j) r);(.ref (vg d j)::l,a)
def lY(s:St):M C->M A->St
 | .ptr b 0::cs,.box vs::outs=>let (l,a):=er (b+500) 0 vs s;lY (a.gB b l) cs outs
 | .ptr _ 0::_,_=>s
 |_::cs,outs=>lY s cs outs
 |[],_=>s
def iM(d:Nat):Nat->M A->St->M C×St
 |_,[],s=>([],s)
 |q,.val c vs::rs,s=>
  let (l,b):=er d (30 * q) vs s
  let (m,a):=iM d (q+1) rs b
  ((if c then .agg l else l.headD .any)::m,a)
 |_,.box _::_,s=>([],s)
def k8:M Nat->Bool
 |[]=>I
 |x::xs=>!xs.contains x && k8 xs
def iu(s:St):M Nat->St
 |[]=>s
 |r::rs=>iu (s.dL r) rs
def nM{a:Type}(l:M a)(o:Nat)(n:M a):M a:=l.take o++n++l.drop (o+n.length)
def A.isVal:A->Bool
 | .val _ _=>I
 | .box _=>J
def A.short:A->Bool
 | .val _ cs=>jZ cs.length 30
 | .box _=>J
def gl(s:St):M Nat->St
 |[]=>s
 |b::a=>gl {s with bx:=sy s.bx b } a
def E4(a:M C):M (Nat×Nat×M C)->u (M C)
 |[]=>Z a
 |(o,n,cs)::b=>if cs.length=n/\o+n<=a.length/\cs.all C.cell=I then E4 (nM a o cs) b else O
def AQ:M C->M Nat
 |[]=>[]
 |c::cs=>rowsOf c.cells++AQ cs
def qV(s:St)(a:M C):M Nat:=cG a++dx s a++iq a
def bytesOf:M (M D)->u (M Int)
 |[]=>Z []
 |[.int .u8 n]::es=>(bytesOf es).map (n::·)
 |_=>O
def af2(s:St):C->u D
 | .d x=>match x with
  | .list k a []=>Z (.list k a [])
  | .list _ _ _=>O
  |x=>Z x
 | .nil k a=>Z (.list k a [])
 | .ref r=>match look s.rw r with
  |some row=>if row.deep=I/\row.fz=J then Z (.list row.k row.fl row.es) else O
  |none=>O
 |_=>O
def Zc(s:St):M C->u (M D)
 |[]=>Z []
 |c::cs=>match af2 s c with
  |some x=>(Zc s cs).map (x::·)
  |none=>O
def YZ(s:St):M C->M D->St->u St
 |[],[],acc=>Z acc
 | .ref r::cs,.list k b es::a,acc=>match look s.rw r with
  |some row=>if k=row.k/\b=row.fl then YZ s cs a (acc.setRow r ⟨es,row.k,row.fl,I,J,J⟩) else O
  |none=>O
 | .ref _::_,_,_=>O
 |_::cs,_::a,acc=>YZ s cs a acc
 |_,_,_=>O
def vl(f:M A->u (M A×M A))(g:Bool):M (M D)->M A->u (M A×M A)
 |[],c=>Z ([.val J [.d (.bool J)]],c)
 |e::es,c=>match f (.val g (e.map .d)::c) with
  |some ([.val J [.d (.bool b)]],outs)=>if outs.all (λa=>!a.isVal)=I then (if b then Z ([.val J [.d (.bool I)]],outs) else vl f g es outs) else O
  |_=>O
def yj(b:Bool)(e:M A->u (M A×M A)):M A->u (M A×M A)
 | .val J [.d (.list k _ es)]::c=>if k=(if b then 3 else 1)/\c.all (λa=>!a.isVal)=I then vl e b es c else O
 |_=>O
def Ha:M C->u (M Nat)
 |[]=>Z []
 | .ptr b 0::cs=>(Ha cs).map (b::·)
 |_=>O
section
variable (cf:Nat->M A->u (M A×M A)) (mf:Nat->Bool->M D->Int->u (M D×Int))
def nS(s:St)(d:u Nat)(f:Nat)(a:M C):u St:=
 match xL s a with
 |none=>O
 |some as=>
  if k8 (dx s a) && k8 (cG a) && (dx s a).all (λr=>!(iq a).contains r) then
   match cf f as with
   |none=>O
   |some (rs,outs)=>if rs.all A.short then
    let h:=if rs.all A.closed && outs.all A.closed then s else eM s (iq a)
    let g:=gl (iu h (dx s a)) (cG a)
    let e:=lY g a outs
    let (l,b):=iM (d.getD 0) 0 rs e
    Z (b.put d (match l with|[c]=>c|l=>.tv l))
    else O
  else O
def Cx(s:St)(o:u KX)(a:Nat):u Nat:=
 match o with
 |none=>Z a
 |some e=>match gF s e with
  | .d (.int .i64 n)=>if 0<=n then Z n.toNat else O
  |_=>O
def jw(s:St):KO->u C
 | .mv x=>Z (gF s x)
 | .pick c x y=>match gF s c with
  | .d (.bool b)=>Z (if b then gF s x else gF s y)
  |_=>O
 | .build g w=>(E4 g (w.map λp=>(p.1,p.2.1,(gF s p.2.2).cells))).map .agg
 | .ld n x=>match gF s x with
  | .ptr b o=>match look s.bx b with
   |some f=>if n=0 then nth f o else if o+n<=f.length then Z (.agg ((f.drop o).take n)) else O
   |none=>O
  | .vc f=>if n=0 then (nth f 0).map .d else if n<=f.length then Z (.agg ((f.take n).map .d)) else O
  | .pG r k i o=>match look s.rw r with
   |some row=>match nth row.es i with
    |some e=>if row.k=k/\o+max n 1<=k/\(dc ((e.drop o).take (max n 1)) ||!row.deep)=I then
      (if n=0 then (nth e o).map .d else Z (.agg (((e.drop o).take n).map .d))) else O
    |none=>O
   |none=>O
  |_=>O
 | .fa o x=>match gF s x with
  | .ptr b p=>Z (.ptr b (p+o))
  | .vc f=>Z (.vc (f.drop o))
  | .pG r k i p=>Z (.pG r k i (p+o))
  |_=>O
 | .ia k x i=>match gF s x,gF s i with
  | .d (.list l _ es),.d (.int .i64 n)=>if 0<=n/\l=k then (nth es n.toNat).map .vc else O
  | .ref r,.d (.int .i64 n)=>match look s.rw r with
   |some row=>if 0<=n/\n.toNat<row.es.length/\row.k=k then Z (.pG r k n.toNat 0) else O
   |none=>O
  |_,_=>O
 | .zro g=>if g.all C.const then Z (.agg g) else O
 | .ixa n k x i=>match gF s x,gF s i with
  | .ptr b o,.d (.int .i64 m)=>if 0<=m/\m.toNat<n then Z (.ptr b (o+m.toNat * k)) else O
  |_,_=>O
 | .six x i=>match gF s x,gF s i with
  | .d (.str t),.d (.int .i64 n)=>if 0<=n/\n.toNat<t.size then Z (.d (.int .u8 (bY t n.toNat))) else O
  |_,_=>O
 | .bin op x y=>U_ op (gF s x) (gF s y)
 | .Yd op x y=>match gF s x,gF s y with
  | .d (.bool a),.d (.bool b)=>(Y2 op a b).map .d
  |_,_=>O
 | .not x=>match gF s x with
  | .d (.bool b)=>Z (.d (.bool (!b)))
  |_=>O
 | .neg x=>match gF s x with
  | .d (.int k a)=>Z (.d (.int k (k.wrap (-a))))
  |_=>O
 | .conv k x=>match gF s x with
  | .d (.int _ a)=>Z (.d (.int k (k.wrap a)))
  |_=>O
 | .len x=>match gF s x with
  | .d (.list _ _ es)=>Z (.d (.int .i64 es.length))
  | .nil _ _=>Z (.d (.int .i64 0))
  | .ref r=>match look s.rw r with
   |some row=>Z (.d (.int .i64 row.es.length))
   |none=>O
  |_=>O
 | .sln x=>match gF s x with
  | .d (.str t)=>Z (.d (.int .i64 t.size))
  |_=>O
 | .min x y=>match gF s x,gF s y with
  | .d (.int .i64 a),.d (.int .i64 b)=>Z (.d (.int .i64 (if b<a then b else a)))
  |_,_=>O
 | .max x y=>match gF s x,gF s y with
  | .d (.int .i64 a),.d (.int .i64 b)=>Z (.d (.int .i64 (if a<b then b else a)))
  |_,_=>O
 | .ext x i=>match gF s x with
  | .tv f=>nth f i
  |_=>O
 | .fld o x=>match gF s x with
  | .agg f=>nth f o
  |_=>O
 | .mkf F h=>(Ha (h.map (gF s))).map (.fn F)
 | .slc x y=>match gF s x,gF s y with
  | .d (.list k v es),.d (.int .i64 n)=>if 0<=n/\n.toNat<=es.length then Z (.d (.list k v (es.take n.toNat))) else O
  |_,_=>O
 | .MZ x j q=>match gF s x with
  | .d (.str t)=>match Cx s j 0,Cx s q t.size with
   |some a,Z b=>if a<=b/\b<=t.size then Z (.d (.str (t.extract a b))) else O
   |_,_=>O
  |_=>O
 | .AS l x j q=>match gF s x with
  | .d (.list k v es)=>match Cx s j 0,Cx s q es.length with
   |some a,Z b=>if k=l/\a<=b/\b<=es.length then Z (.d (.list k v ((es.take b).drop a))) else O
   |_,_=>O
  |_=>O
 | .nck x=>match gF s x with
  | .ptr b o=>Z (.ptr b o)
  | .vc f=>Z (.vc f)
  | .pG r k i o=>Z (.pG r k i o)
  |_=>O
 | .Qt x=>match gF s x with
  | .ref r=>match look s.rw r with
   |some row=>if row.k=1 then (bytesOf row.es).map λh=>.d (.str ⟨(h.map λn=>dT n.toNat).toArray⟩) else O
   |none=>O
  |_=>O
 |_=>O
mutual
def C.iT(q i:Nat):C->C
 | .ref r=>if r=q then .ref i else if r=i then .any else .ref r
 | .pG r k a o=>if r=q then .pG i k a o else if r=i then .any else .pG r k a o
 | .agg cs=>.agg (C.CC q i cs)
 | .tv cs=>.tv (C.CC q i cs)
 |c=>c
def C.CC(q i:Nat):List C->List C
 |[]=>[]
 |c::cs=>C.iT q i c::C.CC q i cs
end
def acf(q i:Nat)(l:M (Nat×C)):M (Nat×C):=l.map λp=>(p.1,p.2.iT q i)
def ace(q i:Nat)(l:M (Nat×M C)):M (Nat×M C):=l.map λp=>(p.1,C.CC q i p.2)
def St.iT(s:St)(q i:Nat)(row:Row):St:=⟨acf q i s.sl,ace q i s.bx,(i,row)::sy (sy s.rw q) i⟩
def nN:M (M D)->u (M Bool)
 |[]=>Z []
 |[.bool b]::es=>(nN es).map (b::·)
 |_=>O
def dJ:M Bool->M Bool->M Bool
 |a::as,b::c=>(a ||b)::dJ as c
 |as,_=>as
def nq:M Bool->M Bool->Bool
 |a::as,b::c=>(b && !a) ||nq as c
 |_,_=>J
def Jr(s:St)(r:Nat):C->u (M (M D))
 | .d (.list 1 _ es)=>Z es
 | .ref q=>match look s.rw q with
  |some row=>if row.k=1/\q≠r then Z row.es else O
  |none=>O
 |_=>O
def pO(s:St)(k:Nat)(a:Bool):C->u (M (M D)×Bool×St)
 | .d (.list c b es)=>if c=k/\b=a then Z (es,a,s) else O
 | .nil _ _=>Z ([],I,s)
 | .ref q=>match look s.rw q with
  |some row=>if row.k=k/\row.fl=a then Z (row.es,(row.deep && !row.fz) ||a,s.dL q) else O
  |none=>O
 |_=>O
def QA(s:St):C->C
 | .ref r=>match look s.rw r with
  |some x=>.d (.list x.k x.fl x.es)
  |none=>.ref r
 | .nil k a=>.d (.list k a [])
 |c=>c
def sI(s:St)(d:Nat):u St:=
 match s.get d with
 | .ref r=>match look s.rw r with
  |some x=>Z ((eM s [r]).put (Z d) (.d (.list x.k x.fl x.es)))
  |none=>O
 | .nil k c=>Z (s.put (Z d) (.d (.list k c [])))
 | .ptr b 0=>match look s.bx b with
  |some a=>Z ((eM s (rowsOf a)).gB b (a.map (QA s)))
  |none=>Z s
 |_=>Z s
def nG(cf:Nat->M A->u (M A×M A))(mf:Nat->Bool->M D->Int->u (M D×Int))(s:St)(d:u Nat):KO->u St
 | .alloc m=>match d with
  |some b=>if m.all C.const then Z ((s.j9 b m).put d (.ptr b 0)) else O
  |none=>O
 | .box x=>match d with
  |some b=>if (gF s x).cells.all C.cell then Z ((s.j9 b (C.jU b (gF s x).cells)).put d (.ptr b 0)) else O
  |none=>O
 | .vX k a xs=>match d with
  |some r=>match EM k a s (xs.map (gF s)) with
   |some (es,j,h)=>if 0<k then Z ((h.newRow r ⟨es,k,a,j,I,J⟩).put d (.ref r)) else O
   |none=>O
  |none=>O
 | .make k g a m x=>match d,gF s x with
  |some r,.d (.int .i64 n)=>if 0<=n/\n.toNat * g<=room/\n<=4611686018427387904 then Z ((s.newRow r ⟨aW n.toNat m,k,a,I,I,J⟩).put d (.ref r)) else O
  |_,_=>O
 | .st n x y=>match gF s x with
  | .ptr b o=>match look s.bx b with
   |some l=>if (gF s y).cells.all C.cell=I/\(gF s y).cells.length=n/\o+n<=l.length then Z (s.gB b (nM l o (gF s y).cells)) else O
   |none=>O
  | .pG r k i o=>match HQ s (gF s y).cells with
   |some (w,j,h)=>match look h.rw r with
    |some row=>match nth row.es i with
     |some e=>if row.k=k/\row.fz=J/\row.app=I/\w.length=n/\o+n<=k/\(row.fl=I->dc w=I)/\(j ||!row.deep)=I then
       Z (h.setRow r {row with es:=row.es.set i (nM e o w) }) else O
     |none=>O
    |none=>O
   |none=>O
  |_=>O
 | .app k g a x y=>match d with
  |none=>O
  |some d0=>match pO s k a (gF s y) with
   |none=>O
   |some (es,j,h)=>match gF s x with
    | .nil v t=>if v=k/\t=a/\es.length * g<=room/\es.length<=maxLen then Z ((h.newRow d0 ⟨es,k,a,j,I,J⟩).put d (.ref d0)) else O
    | .ref r=>match look h.rw r with
     |some row=>if row.k=k/\row.fl=a/\row.app=I/\(row.es.length+es.length) * g<=room/\row.es.length+es.length<=maxLen then
       Z ((h.newRow r {row with es:=row.es++es,deep:=row.deep && j }).put d (.ref r)) else O
     |none=>O
    |_=>O
 | .call f xs=>nS cf s d f (xs.map (gF s))
 | .cbx f xs=>match d,xL s (xs.map (gF s)) with
  |some b,Z as=>if as.all A.isVal then (match cf f as with
    |some ([.box vs],[])=>Z (((er (b+500) 0 vs (eM s (iq (xs.map (gF s))))).2.j9 b (er (b+500) 0 vs (eM s (iq (xs.map (gF s))))).1).put (Z b) (.ptr b 0))
    |_=>O) else O
  |_,_=>O
 | .Kv k x y=>match d,gF s x,gF s y with
  |some d0,.ref r,.d (.list v t es)=>match look s.rw r with
   |some row=>if row.k=k/\v=k/\t=I/\row.fl=I/\row.fz=J/\row.app=I/\es.length=row.es.length then
     Z ((s.setRow r {row with es:=es }).put (Z d0) (.d (.int .i64 es.length))) else O
   |none=>O
  |_,_,_=>O
 | .Xp x=>match d with
  |some d0=>match gF s x with
   | .ref q=>match look s.rw q with
    |some row=>Z ((s.iT q (vg d0 0) row).put (Z d0) (.ref (vg d0 0)))
    |none=>O
   |c=>Z (s.put (Z d0) c)
  |none=>O
 | .jn x y=>match d,gF s x with
  |some d0,.ref r=>match look s.rw r,Jr s r (gF s y) with
   |some row,Z es=>if row.k=1/\row.fl=I/\row.fz=J/\row.app=I/\es.length=row.es.length then
     (match nN row.es,nN es with
     |some p,Z l=>if es≠[] then Z ((s.setRow r {row with es:=(dJ p l).map λb=>[D.bool b] }).put (Z d0) (.d (.bool (nq p l)))) else O
     |_,_=>O) else O
   |_,_=>O
  |_,_=>O
 | .MP B f F x y=>match gF s y with
  | .fn G p=>if G=F then nS (λ_=>yj B (cf f)) s d 0 (gF s x::p.map λb=>.ptr b 0) else O
  |_=>O
 |_=>O
def KO.ql:KO->Bool
 | .alloc _=>J
 | .box _=>J
 | .vX _ _ _=>J
 | .make _ _ _ _ _=>J
 | .st _ _ _=>J
 | .app _ _ _ _ _=>J
 | .call _ _=>J
 | .cbx _ _=>J
 | .Kv _ _ _=>J
 | .jn _ _=>J
 | .Xp _=>J
 | .MP _ _ _ _ _=>J
 |_=>I
def D4(s:St)(d:u Nat)(o:KO):u St:=
 if o.ql then (jw s o).map (s.put d) else nG cf mf s d o
def wL(s:St)(i:KI):u St:=
 match i.gd with
 |none=>D4 cf mf s i.dst i.op
 |some (g,want)=>match s.get g with
  | .d (.bool b)=>if b=want then D4 cf mf s i.dst i.op else Z (s.put i.dst .wq)
  | .wq=>Z (s.put i.dst .wq)
  |_=>O
def nP:M KI->St->u St
 |[],s=>Z s
 |i::is,s=>match wL cf mf s i with
  |some a=>nP is a
  |none=>O
def KO.Rb:KO->Bool
 | .ld _ _=>I
 | .Qt _=>I
 |_=>J
def rj(s:St):KO->u (u Nat)
 | .ld _ x=>match gF s x with
  | .ptr b _=>Z (Z b)
  | .vc _=>Z O
  |_=>O
 | .Qt _=>O
 |_=>Z O
def gr(s:St)(d:u Nat):KO->M Nat
 | .st _ x y=>(match gF s x with
   | .ptr b _=>[b]
   | .pG r _ _ _=>r::rowsOf (gF s y).cells
   |_=>[])
 | .vX _ _ xs=>d.toList++AQ (xs.map (gF s))
 | .app _ _ _ x y=>d.toList++rowsOf [gF s x]++rowsOf [gF s y]
 | .call f xs=>qV s (xs.map (gF s))
 | .MP _ _ _ x y=>(match gF s y with
   | .fn _ a=>qV s (gF s x::a.map λb=>.ptr b 0)
   |_=>[])
 | .Kv _ x _=>d.toList++rowsOf [gF s x]
 | .jn x _=>d.toList++rowsOf [gF s x]
 |_=>d.toList
def qq(c:M Nat)(a:M (M Nat×Nat)):u Nat->M (M Nat×Nat)
 |some b=>(c,b)::a
 |none=>a
def kC(j:Nat)(a:M (M Nat×Nat)):M (M Nat×Nat):=a.filter λp=>!p.1.contains j
def jk{a:Type}(l:M (Nat×a)):M Nat->M (Nat×a)
 |[]=>[]
 |d::b=>match look l d with
  |some x=>(d,x)::jk l b
  |none=>jk l b
def St.ey(s:St)(a:zA):St:=⟨jk s.sl a.s,jk s.bx a.b,jk s.rw a.r⟩
def nE(x:KD)(a:M (M Nat×Nat))(s:St)(k:M (M Nat×Nat)->St->u St):u St:=
 match wL cf mf s x.i with
 |some b=>if (kC x.j a).all (λp=>!(gr s x.i.dst x.i.op).contains p.2 && (look b.bx p.2).isSome && !(x.i.dst ==Z p.2)) then k (kC x.j a) b else O
 |none=>O
open Classical in
noncomputable def both{c:Type}:u c->u c->u c
 |some a,Z b=>if a=b then Z a else O
 |_,_=>O
noncomputable def iw(e:zA):KT->M (M Nat×Nat)->St->u St
 | .nil,_,s=>Z (s.ey e)
 | .op ⟨j,quiet,h,f,i⟩ is,a,s=>
  if quiet then
   (match i.gd with
   |none=>(match jw s i.op,rj s i.op with
    |some c,Z b=>iw e is (qq f a b) (s.put i.dst c)
    |_,_=>O)
   |some (g,want)=>match s.get g with
    | .d (.bool t)=>if t=want then (match jw s i.op,rj s i.op with
      |some c,Z b=>iw e is (qq f a b) (s.put i.dst c)
      |_,_=>O) else iw e is a (s.put i.dst .wq)
    | .wq=>iw e is a (s.put i.dst .wq)
    |_=>O)
  else nE cf mf ⟨j,quiet,h,f,i⟩ a s (iw e is)
 | .alt x is r,a,s=>both (nE cf mf x a s (iw e is)) (iw e r a s)
def iter(f:St->u (Ex×St)):Nat->St->u (Ex×St)
 |0,_=>O
 |n+1,s=>match f s with
  |some (.norm,a)=>iter f n a
  |r=>r
noncomputable def jG(n:Nat):K->St->u (Ex×St)
 | .skip,s=>Z (.norm,s)
 | .Uz ops f,s=>match nP cf mf ops s with
  |some e=>Z (.norm,e.ey f)
  |none=>O
 | .ZH ops f,s=>match iw cf mf f ops [] s with
  |some e=>Z (.norm,e)
  |none=>O
 | .seq a b,s=>match jG n a s with
  |some (.norm,e)=>jG n b e
  |r=>r
 | .cond c a b,s=>match gF s c with
  | .d (.bool t)=>if t then jG n a s else jG n b s
  |_=>O
 | .block id a,s=>match jG n a s with
  |some (.exit i,e)=>if i=id then Z (.norm,e) else Z (.exit i,e)
  |r=>r
 | .loop a,s=>iter (jG n a) n s
 | .exit id,s=>Z (.exit id,s)
 | .ret,s=>Z (.ret,s)
 | .share r a,s=>jG n a (eM s [r])
 | .DV d a,s=>match sI s d with
  |some e=>jG n a e
  |none=>O
end
inductive KR where
 |t (d:Nat)
 |b (d:Nat)
 |c (d n:Nat)
structure KF where
 np:Nat
 body:K
 res:List KR
def Bx(p:Nat)(a:A)(s:St):St:=
 match a with
 | .val c vs=>let (l,b):=er p 0 vs s;b.put (Z p) (if c then .agg l else l.headD .any)
 | .box vs=>let (l,b):=er (p+1400) 0 vs s;(b.j9 (900+p) l).put (Z p) (.ptr (900+p) 0)
def lQ:Nat->M A->St->St
 |_,[],s=>s
 |p,a::as,s=>lQ (p+1) as (Bx p a s)
def Hd (s : St) : KR -> u (A × M Nat)
  | .t d => (ig (kN s) (s.get d).cells).map λvs => (.val (s.get d).isAgg vs, rowsOf (s.get d).cells)
  | .b _ => O
  | .c d n => match s.get d with
   | .ptr b 0 => match look s.bx b with
    | some cs => if n = 0 then (match cs with
        | [c] => (ig (kN s) cs).map λvs => (.val J vs, rowsOf cs)
        | _ => O)
      else if cs.length = n then (ig (kN s) cs).map λvs => (.val I vs, rowsOf cs) else O
    | none => O
   | _ => O
def AO(s:St):M KR->u (M A×M Nat)
 |[]=>Z ([],[])
 |r::rs=>match Hd s r with
  |some (a,l)=>(AO s rs).map λ(as,b)=>(a::as,l++b)
  |none=>O
def Xx(s:St)(p:Nat):A->u (M A×M Nat)
 | .val _ _=>Z ([],[])
 | .box _=>match look s.bx (900+p) with
  |some a=>(ig (kN s) a).map λvs=>([.box vs],rowsOf a)
  |none=>O
def xX(s:St):Nat->M A->u (M A×M Nat)
 |_,[]=>Z ([],[])
 |p,a::as=>match Xx s p a with
  |some (l,r)=>(xX s (p+1) as).map λ(c,b)=>(l++c,r++b)
  |none=>O
def yS(a:M KR)(args:M A)(s:St):u (M A×M A):=
 match a with
 |[.b d]=>if args.all A.isVal then (match s.get d with
  | .ptr b 0=>match look s.bx b with
   |some c=>if k8 (rowsOf c) then (ig (kN s) c).map λvs=>([.box vs],[]) else O
   |none=>O
  |_=>O) else O
 |_=>O
def leave(a:KF)(args:M A)(s:St):u (M A×M A):=
 match AO s a.res,xX s 0 args with
 |some (rs,l),Z (outs,b)=>if k8 (l++b) then Z (rs,outs) else O
 |_,_=>yS a.res args s
noncomputable def Iv(c:Nat->M A->u (M A×M A))(b:Nat->Bool->M D->Int->u (M D×Int))(n:Nat)(a:KF)(args:M A):u (M A×M A):=
 if args.length=a.np then
  match jG c b n a.body (lQ 0 args ⟨[],[],[]⟩) with
  |some (.norm,s)=>leave a args s
  |some (.ret,s)=>leave a args s
  |_=>O
 else O
def Xq(t:z):M (M D)->Int->u Int
 |[],_=>Z (-1)
 |(.str s::_)::es,i=>if s=t then Z i else Xq t es (i+1)
 |_,_=>O
def XT(f:Nat)(as:M A):u (M A×M A):=
 if f=9001 then (match as with
  |[.val J [.d (.int .i64 n)]]=>Z ([.val J [.d (.str ⟨(Lib.itoa n).toArray⟩)]],[])
  |_=>O)
 else if f=9002 then (match as with
  |[.val J [.d (.str s)],.val J [.d (.int .u8 c)]]=>Z ([.val J [.d (.int .i64 (Lib.indexByte s.data.toList c.toNat.toUInt8))]],[])
  |_=>O)
 else if f=9003 then (match as with
  |[.val J [.d (.list 3 a es)],.val J [.d (.str t)]]=>(Xq t es 0).map λi=>([.val J [.d (.int .i64 i)]],[])
  |_=>O)
 else O
noncomputable def C1(T:Nat->u KF):Nat->Nat->M A->u (M A×M A)
 |0,_,_=>O
 |n+1,f,args=>match T f with
  |none=>O
  |some a=>if a.np=999 then XT f args else Iv (C1 T n) (λ_ _ _ _=>O) n a args
section
open Go.RowKit
inductive Own where
 |free
 |box (b:Nat)
 |row (r:Nat)
 |fI
 deriving DecidableEq
structure Gh where
 h:Nat->Nat
 β:Nat->Nat
 sl:Nat->Value
 ω:Nat->Own
def dW(h:Nat->Nat)(F:Fp):Prop:=∀a∈F,a.2<=h a.1
def vj(w:World)(g:Nat):Prop:=g<w.heap.size/\∀j,w.frozen? ⟨g,j,O⟩=J
mutual
def CR(γ:Gh)(w:World):C->Value->Prop
 | .d x,v=>∃F,Rp w x v F/\dW γ.h F
 | .nil k _,v=>v=.slice O 0 0/\0<k
 | .ref r,v=>v=γ.sl r/\∃A n c,v=.slice A n c
 | .ptr b o,v=>v=.pointer (Z ⟨γ.β b,o,O⟩)
 | .pG r k i o,v=>∃g p n c,γ.sl r=.slice (Z ⟨g,p,O⟩) n c/\v=.pointer (Z ⟨g,p+i * k+o,O⟩)
 | .vc cs,v=>∃b o vs F,v=.pointer (Z ⟨b,o,O⟩)/\gK w cs vs F/\dW γ.h F/\j5 w b o vs/\∀j,j<cs.length->o+j<γ.h b
 | .agg cs,v=>∃vs,v=.agg vs.toArray/\gY γ w cs vs
 | .tv cs,v=>∃vs,v=.tuple vs.toArray/\gY γ w cs vs
 | .fn F e,v=>v=.func (.func F) #[] (e.map λb=>Value.pointer (Z ⟨γ.β b,0,O⟩)).toArray
 | .wq,v=>v=undef
 | .any,_=>True
def gY(γ:Gh)(w:World):List C->List Value->Prop
 |[],vs=>vs=[]
 |c::cs,vs=>∃v a,vs=v::a/\CR γ w c v/\gY γ w cs a
end
def sF(h:Nat->Nat)(w:World)(x:Row)(v:Value)(F:M Nat):Prop:=
 ∃A n c,v=.slice A n c/\n=x.es.length/\n<=c/\c<=maxLen/\0<x.k/\(∀e∈x.es,e.length=x.k)/\(x.fl=I->flat x.es)/\
  ((A=O/\c=0/\F=[])\/
   ∃g o a G,A=Z ⟨g,o,O⟩/\g<w.heap.size/\vj w g/\iQ w x.es a G/\j5 w g o a/\h g<=o+n * x.k/\(x.fz=J->h g=0)/\
    (x.app=I->o=0/\∃T vs,mP w g T vs/\vs.length=c * x.k)/\
    (x.deep=I->F=g::G.map fS/\∀b∈G,h b.1=0/\vj w b.1)/\(x.deep=J->F=[g]/\dW h G))
structure Inv (γ:Gh) (h0:Nat->Nat) (io:List Nat) (w0:World) (s:St) (f:Fm) (w:World):Prop where
 sl:∀d c,look s.sl d=some c->CR γ w c (f d)
 bx:∀b cs,look s.bx b=some cs->∃T vs,mP w (γ.β b) T vs/\gY γ w cs vs/\γ.ω (γ.β b)=.box b
 rw:∀r x,look s.rw r=some x->∃F,sF γ.h w x (γ.sl r) F/\F.Nodup/\∀g∈F,γ.ω g=.row r
 own:∀g,γ.ω g≠.free->g<w.heap.size/\(w0.heap.size<=g\/g∈io)
 nJ:∀g b,γ.ω g=.box b->γ.h g=0
 fK:∀g,w.heap.size<=g->γ.h g=0
 os:w.os=w0.os
 tape:w.tape=w0.tape
 output:w.output=w0.output
 size:w0.heap.size<=w.heap.size
 frame:∀g,g<w0.heap.size->g∉io->w.heap[g]?=w0.heap[g]?
 cell:∀g j,g<w0.heap.size->j<h0 g->w.cell? ⟨g,j,none⟩=w0.cell? ⟨g,j,none⟩
 mono:∀g,g<w0.heap.size->h0 g<=γ.h g
 hold:∀g,g<w0.heap.size->g∉io->γ.h g=h0 g
 jl:∀g,vj w0 g->vj w g
section
variable {α:Type}
theorem fL(l:M (Nat×α))d e:look (sy l d) e=if d=e then O else look l e:=by induction l with|nil=>{simp[sy,look]}|cons p l b=>obtain⟨k,x⟩:=p;unfold sy at b ⊢;by_cases h:k=d;{subst h;simp[b,look];by_cases a:k=e<;>simp[a]};(have c:(k !=d)=I:=by simp[h]);simp[c,look,b];by_cases a:k=e;{subst a;simp[ov h]};simp[a]
theorem s6 l:∀(a) (e) (x:α),look (jk l a) e=Z x->look l e=Z x
 |[],e,x,h=>by simp[jk,look]at h
 |d::a,e,x,h=>by unfold jk at h;cases hd:look l d with|none=>{rw[hd]at h;exact s6 l a e x h}|some y=>rw[hd]at h;simp[look]at h;split at h;{simp_all};exact s6 l a e x h
end
theorem yU i l d:look (TR i l) d=(look l d).map (C.kill i):=by induction l with|nil=>{rfl}|cons p l a=>unfold TR at a ⊢;simp[look,a];split<;>rfl
theorem yT i l d:look (TQ i l) d=(look l d).map (C.jU i):=by induction l with|nil=>{rfl}|cons p l a=>unfold TQ at a ⊢;simp[look,a];split<;>rfl
def dW.mono{h a F}(b:dW h F)(c:∀g,h g<=a g):dW a F:=λe d=>aS (b e d) (c _)
def dW.keeps{h F w a}(b:dW h F)(d:∀g j,j<h g->a.cell? ⟨g,j,O⟩=w.cell? ⟨g,j,O⟩):vi F w a:=
 λf e j c=>d _ j (bZ c (b f e))
def dW.sub{h F G}(b:dW h F)(c:∀a∈G,a∈F):dW h G:=λa d=>b a (c a d)
def dW.append{h F G}(c:dW h F)(d:dW h G):dW h (F++G):=λb a=>by rcases aX.1 a with a|a;{exact c b a};exact d b a
mutual
theorem CR.move{γ l:Gh}{w A:World}(i:Nat)(p:∀g,γ.h g<=l.h g)(q:∀g j,j<γ.h g->A.cell? ⟨g,j,O⟩=w.cell? ⟨g,j,O⟩)(y:∀b,b≠i->l.β b=γ.β b)(s:∀r,r≠i->l.sl r=γ.sl r) :
  ∀(c:C) {v:Value},CR γ w c v->CR l A (C.kill i c) v
 | .d x,v,h=>by simp only[CR,C.kill]at h ⊢;obtain⟨F,n,m⟩:=h;exact⟨F,n.ey x (m.keeps q),m.mono p⟩
 | .nil _ _,v,h=>by simpa only [CR,C.kill] using h
 | .ref r,v,h=>by simp only[C.kill];split;{simp only[CR]};rename_i t;simp only[CR]at h ⊢;rw[s r t];exact h
 | .ptr b o,v,h=>by simp only[C.kill];split;{simp only[CR]};rename_i t;simp only[CR]at h ⊢;rw[y b t];exact h
 | .pG r k a o,v,h=>by simp only[C.kill];split;{simp only[CR]};rename_i t;simp only[CR]at h ⊢;rw[s r t];exact h
 | .vc cs,v,h=>by simp only[CR,C.kill]at h ⊢;obtain⟨b,o,vs,F,n,m,D,L,H⟩:=h;refine⟨b,o,vs,F,n,m.ey cs (D.keeps q),D.mono p,?_,λj B=>bZ (H j B) (p b)⟩;intro j f G;have B:=(bn.1 G).1;rw[gK.length cs m]at B;rw[q b (o+j) (H j B)];exact L j f G
 | .agg cs,v,h=>by simp only[CR,C.kill]at h ⊢;obtain⟨vs,n,m⟩:=h;exact⟨vs,n,gY.move i p q y s cs m⟩
 | .tv cs,v,h=>by simp only[CR,C.kill]at h ⊢;obtain⟨vs,n,m⟩:=h;exact⟨vs,n,gY.move i p q y s cs m⟩
 | .fn F P,v,h=>by simp only[C.kill];split;{simp only[CR]};rename_i t;simp only[CR]at h ⊢;rw[h,qC λb K=>?_];rw[y b λe=>t (by rw[<- e];simpa using K)]
 | .wq,v,h=>by simpa only [CR,C.kill] using h
 | .any,v,h=>by simp only[CR,C.kill]
theorem gY.move{γ l:Gh}{w A:World}(i:Nat)(p:∀g,γ.h g<=l.h g)(q:∀g j,j<γ.h g->A.cell? ⟨g,j,O⟩=w.cell? ⟨g,j,O⟩)(y:∀b,b≠i->l.β b=γ.β b)(s:∀r,r≠i->l.sl r=γ.sl r) :
  ∀(cs:List C) {vs:List Value},gY γ w cs vs->gY l A (C.jU i cs) vs
 |[],vs,h=>by simpa only [gY,C.jU] using h
 |c::cs,vs,h=>by simp only[gY,C.jU]at h ⊢;obtain⟨v,N,n,m,D⟩:=h;exact⟨v,N,n,CR.move i p q y s c m,gY.move i p q y s cs D⟩
end
mutual
theorem CR.mono{γ γ':Gh}{w q:World}(l:∀g,γ.h g<=γ'.h g)(m:∀g j,j<γ.h g->q.cell? ⟨g,j,O⟩=w.cell? ⟨g,j,O⟩)(p:γ'.β=γ.β)(n:γ'.sl=γ.sl) :
  ∀(c:C) {v:Value},CR γ w c v->CR γ' q c v
 | .d x,v,h=>by simp only[CR]at h ⊢;obtain⟨F,i,f⟩:=h;exact⟨F,i.ey x (f.keeps m),f.mono l⟩
 | .nil _ _,v,h=>by simpa only [CR] using h
 | .ref r,v,h=>by simp only[CR]at h ⊢;rw[n];exact h
 | .ptr b o,v,h=>by simp only[CR]at h ⊢;rw[p];exact h
 | .pG r k a o,v,h=>by simp only[CR]at h ⊢;rw[n];exact h
 | .vc cs,v,h=>by simp only[CR]at h ⊢;obtain⟨b,o,vs,F,i,f,t,B,A⟩:=h;refine⟨b,o,vs,F,i,f.ey cs (t.keeps m),t.mono l,?_,λj s=>bZ (A j s) (l b)⟩;intro j e y;have s:=(bn.1 y).1;rw[gK.length cs f]at s;rw[m b (o+j) (A j s)];exact B j e y
 | .agg cs,v,h=>by simp only[CR]at h ⊢;obtain⟨vs,i,f⟩:=h;exact⟨vs,i,gY.mono l m p n cs f⟩
 | .tv cs,v,h=>by simp only[CR]at h ⊢;obtain⟨vs,i,f⟩:=h;exact⟨vs,i,gY.mono l m p n cs f⟩
 | .fn F G,v,h=>by simp only[CR]at h ⊢;rw[p];exact h
 | .wq,v,h=>by simpa only [CR] using h
 | .any,v,h=>by simp only[CR]
theorem gY.mono{γ γ':Gh}{w q:World}(l:∀g,γ.h g<=γ'.h g)(m:∀g j,j<γ.h g->q.cell? ⟨g,j,O⟩=w.cell? ⟨g,j,O⟩)(p:γ'.β=γ.β)(n:γ'.sl=γ.sl) :
  ∀(cs:List C) {vs:List Value},gY γ w cs vs->gY γ' q cs vs
 |[],vs,h=>by simpa only [gY] using h
 |c::cs,vs,h=>by simp only[gY]at h ⊢;obtain⟨v,D,i,f,t⟩:=h;exact⟨v,D,i,CR.mono l m p n c f,gY.mono l m p n cs t⟩
end
theorem sF.ey{h r w k x v F}(y:sF h w x v F)(i:∀g∈F,r g=h g/\k.heap[g]?=w.heap[g]?)(H:∀g,h g<=r g)(K:∀g j,j<h g->k.cell? ⟨g,j,O⟩=w.cell? ⟨g,j,O⟩):sF r k x v F:=by obtain⟨A,n,c,V,U,S,R,Q,P,N,q⟩:=y;refine⟨A,n,c,V,U,S,R,Q,P,N,?_⟩;rcases q with q|⟨g,o,s,G,a1,a2,a3,a4,a5,Y,X,W,a9,l⟩;{exact .inl q};have p:g∈F:=by{cases hd:x.deep with|true=>{rw[(a9 hd).1];simp}|false=>rw[(l hd).1];simp};have f:=(i g p).2;have D:vi G w k:=by{cases hd:x.deep with|false=>{exact (l hd).2.keeps K}|true=>intro a d j _;exact World.cell?_of_block (w:=w) (i a.1 (by rw[(a9 hd).1];simp;exact .inr ⟨a.2,d⟩)).2};refine .inr ⟨g,o,s,G,a1,LY a2 f,?_,a4.ey _ D,a5.ey f,by rw[(i g p).1];exact Y,λb=>by rw[(i g p).1];exact X b,?_,?_,?_⟩;{exact⟨LY a2 f,λj=>by rw[World.frozen?_of_block (w:=w) f];exact a3.2 j⟩};{intro L;obtain⟨B,T,vs,t,C⟩:=W L;exact⟨B,T,vs,t.ey f,C⟩};{intro hd;obtain⟨e,b⟩:=a9 hd;refine⟨e,λa d=>?_⟩;have m:=i a.1 (by rw[e];simp;exact .inr ⟨a.2,d⟩);refine⟨by rw[m.1];exact (b a d).1,LY (b a d).2.1 m.2,λj=>?_⟩;rw[World.frozen?_of_block (w:=w) m.2];exact (b a d).2.2 j};intro hd;obtain⟨e,b⟩:=l hd;exact⟨e,b.mono H⟩
structure Bg (γ:Gh) (M:Own->Prop) (w w':World):Prop where
 os:w'.os=w.os
 tape:w'.tape=w.tape
 output:w'.output=w.output
 size:w.heap.size<=w'.heap.size
 block:∀g,g<w.heap.size->¬M (γ.ω g)->w'.heap[g]?=w.heap[g]?
 cell:∀g j,j<γ.h g->w'.cell? ⟨g,j,none⟩=w.cell? ⟨g,j,none⟩
 jl:∀g,vj w g->vj w' g
section
variable {γ:Gh} {h0:Nat->Nat} {io:M Nat} {w0:World} {s:St} {f:Fm} {w:World}
theorem Inv.C4(i:Inv γ h0 io w0 s f w){c a}(e:Bg γ a w c):∀g j,j<γ.h g->c.cell? ⟨g,j,O⟩=w.cell? ⟨g,j,O⟩:=e.cell
theorem Inv.YI(a:Inv γ h0 io w0 s f w){p:World}{M:Own->Prop}(i:Bg γ M w p)(A:¬M .free)(C:∀b,M (.box b)->look s.bx b=O)(B:∀r,M (.row r)->look s.rw r=O):Inv γ h0 io w0 s f p where
 sl d c l:=(a.sl d c l).mono (γ':=γ) (λ_=>aH _) i.cell rfl rfl c
 bx b cs l:=by obtain⟨T,vs,n,o,m⟩:=a.bx b cs l;refine⟨T,vs,n.ey (i.block _ n.lt ?_),o.mono (γ':=γ) (λ_=>aH _) i.cell rfl rfl cs,m⟩;grind
 rw r x l:=by obtain⟨F,n,o,m⟩:=a.rw r x l;refine⟨F,n.ey (λg e=>⟨rfl,i.block g (a.own g (by rw[m g e];simp)).1 ?_⟩) (λ_=>aH _) i.cell,o,m⟩;grind
 own g e:=⟨bZ (a.own g e).1 i.size,(a.own g e).2⟩
 nJ:=a.nJ
 fK g e:=a.fK g (aS i.size e)
 os:=i.os.trans a.os
 tape:=i.tape.trans a.tape
 output:=i.output.trans a.output
 size:=aS a.size i.size
 frame g e q:=by refine (i.block g (bZ e a.size) ?_).trans (a.frame g e q);have:γ.ω g=.free:=by{rcases jo (γ.ω g=.free) with h|h;{exact h};rcases (a.own g h).2 with y|y;{omega};exact absurd y q};rw[this];exact A
 cell g j e t:=(i.cell g j (bZ t (a.mono g e))).trans (a.cell g j e t)
 mono:=a.mono
 hold:=a.hold
 jl g e:=i.jl g (a.jl g e)
theorem Inv.sub(e:Inv γ h0 io w0 s f w){a}(j:∀d c,look a.sl d=Z c->look s.sl d=Z c)(i:∀d c,look a.bx d=Z c->look s.bx d=Z c)(g:∀d c,look a.rw d=Z c->look s.rw d=Z c):Inv γ h0 io w0 a f w:=
 {e with sl:=λd c h=>e.sl d c (j d c h),bx:=λd c h=>e.bx d c (i d c h),rw:=λd c h=>e.rw d c (g d c h) }
theorem Inv.get(a:Inv γ h0 io w0 s f w)d:CR γ w (s.get d) (f d):=by unfold St.get;cases h:look s.sl d with|none=>{simp[CR]}|some c=>exact a.sl d c h
theorem Inv.put(a:Inv γ h0 io w0 s f w)d c v(i:CR γ w c v):Inv γ h0 io w0 (s.put (Z d) c) (ID f d v) w:=
 {a with
  sl:=λe j h=>by
   simp[St.put,look]at h;by_cases g:d=e
   .subst g;simp at h;subst h
    simpa [ID] using i
   .rw[if_neg g]at h;have:ID f d v e=f e:=by
     unfold ID;cases l:gH e d
     .rfl
     simp_all
    rw[this];exact a.sl e j h }
theorem Inv.settle(a:Inv γ h0 io w0 s f w){h':Nat->Nat}{ω':Nat->Own}(m:∀g,γ.h g<=h' g)(o:∀g,h' g≠γ.h g->g<w.heap.size/\(w0.heap.size<=g\/g∈io)/\(∀b j,look s.bx b=Z j->γ.ω g≠.box b)/\∀r x,look s.rw r=Z x->γ.ω g≠.row r)
  (n:∀g,ω' g=γ.ω g\/((ω' g=.free\/ω' g=.fI)/\γ.ω g≠.free/\(∀b j,look s.bx b=Z j->γ.ω g≠.box b)/\∀r x,look s.rw r=Z x->γ.ω g≠.row r)) (y:∀g b,ω' g=.box b->h' g=0):Inv {γ with h:=h',ω:=ω' } h0 io w0 s f w where
 sl d c i:=(a.sl d c i).mono (γ':={γ with h:=h',ω:=ω' }) m (λ_ _ _=>rfl) rfl rfl c
 bx b j i:=by obtain⟨T,vs,q,p,l⟩:=a.bx b j i;refine⟨T,vs,q,p.mono (γ':={γ with h:=h',ω:=ω' }) m (λ_ _ _=>rfl) rfl rfl j,?_⟩;rcases n (γ.β b) with h|⟨_,_,h,_⟩;{exact h.trans l};exact absurd l (h b j i)
 rw r x i:=by obtain⟨F,q,p,l⟩:=a.rw r x i;refine⟨F,q.ey (λg e=>⟨?_,rfl⟩) m (λ_ _ _=>rfl),p,λg e=>?_⟩;{rcases jo (h' g=γ.h g) with h|h;{exact h};exact absurd (l g e) ((o g h).2.2.2 r x i)};rcases n g with h|⟨_,_,_,h⟩;{exact h.trans (l g e)};exact absurd (l g e) (h r x i)
 own g e:=by rcases n g with h|⟨_,h,_⟩;{exact a.own g (by rw[<- h];exact e)};exact a.own g h
 nJ:=y
 fK g e:=by rcases jo (h' g=γ.h g) with h|h;{exact h.trans (a.fK g e)};have:=(o g h).1;omega
 os:=a.os
 tape:=a.tape
 output:=a.output
 size:=a.size
 frame:=a.frame
 cell:=a.cell
 mono g e:=aS (a.mono g e) (m g)
 hold g e t:=by rcases jo (h' g=γ.h g) with h|h;{exact h.trans (a.hold g e t)};rcases (o g h).2.1 with h'|h';{omega};exact absurd h' t
 jl:=a.jl
end
end
section
open Go.RowKit
def lN(N:Nat):Operand->KX->Bool
 | .tmp d,.s f=>d ==f && eP d N
 | .const (.int k n),.k (.d (.int e c))=>k ==e && n ==c && k.wrap n ==n
 | .const (.bool b),.k (.d (.bool g))=>b ==g
 | .const (.string s),.k (.d (.str a))=>s.data.toList ==a.data.toList && jZ s.size maxLen
 | .const (.slice O 0 0),.k (.nil k _)=>eP 0 k
 | .const _,.k .any=>I
 |_,_=>J
section
variable {γ:Gh} {h0:Nat->Nat} {io:M Nat} {w0:World} {s:St} {f:Fm} {w:World} {N:Nat}
theorem jE{k n}(h:k.wrap n=n):CR γ w (.d (.int k n)) (.int k n):=by simp[CR,Rp];exact⟨[],by simp[h],λ_ h=>by simp at h⟩
theorem jI{b}:CR γ w (.d (.bool b)) (.bool b):=by simp only[CR,Rp];exact⟨[],by simp,λ_ h=>by simp at h⟩
theorem CG{t}(h:t.size<=maxLen):CR γ w (.d (.str t)) (.string t):=by simp[CR,Rp];exact⟨[],by simp[h],λ_ h=>by simp at h⟩
theorem lZ{k n v}(h:CR γ w (.d (.int k n)) v):v=.int k n/\k.wrap n=n:=by obtain⟨_,⟨b,_,a⟩,_⟩:=h;exact⟨b,a⟩
theorem tK{b v}(h:CR γ w (.d (.bool b)) v):v=.bool b:=by obtain⟨_,⟨a,_⟩,_⟩:=h;exact a
theorem EF{t v}(h:CR γ w (.d (.str t)) v):v=.string t/\t.size<=maxLen:=by obtain⟨_,⟨b,_,a⟩,_⟩:=h;exact⟨b,a⟩
theorem Mn{a b:z}(h:a.data.toList=b.data.toList):a=b:=by cases a;simp_all
theorem cU(b:Inv γ h0 io w0 s f w){x kx}(ok:lN N x kx=I):CR γ w (gF s kx) ((fr f N).eval x):=by unfold lN at ok;split at ok;{simp at ok;obtain⟨rfl,hd⟩:=ok;rw[Tq f (by simpa using hd)];exact b.get _};{simp at ok;obtain⟨⟨rfl,rfl⟩,a⟩:=ok;exact jE a};{simp at ok;subst ok;exact jI};{simp only[aw,beq_iff_eq,Nat.ble_eq]at ok;obtain⟨c,a⟩:=ok;rw[Mn c]at a ⊢;exact CG a};{simp at ok;simp[gF];exact⟨rfl,ok⟩};{simp[gF,CR]};cases ok
end
structure qT (γ:Gh) (s:St) (w w':World):Prop where
 cell:∀g j,j<γ.h g->w'.cell? ⟨g,j,none⟩=w.cell? ⟨g,j,none⟩
 bx:∀b cs,look s.bx b=some cs->w'.heap[γ.β b]?=w.heap[γ.β b]?
 rw:∀r x,look s.rw r=some x->∀g,γ.ω g=.row r->w'.heap[g]?=w.heap[g]?
def qT.refl γ s w:qT γ s w w:=⟨λ_ _ _=>rfl,λ_ _ _=>rfl,λ_ _ _ _ _=>rfl⟩
def GY(N:Nat):M Operand->M KX->Bool
 |[],[]=>I
 |x::xs,y::ys=>lN N x y && GY N xs ys
 |_,_=>J
theorem AD{γ d io c s f w N}(b:Inv γ d io c s f w):∀a ys,GY N a ys=I->gY γ w (ys.map (gF s)) (a.map (fr f N).eval)
 |[],[],_=>by simp[gY]
 |[],_::_,h=>by simp[GY]at h
 |_::_,[],h=>by simp[GY]at h
 |x::a,y::ys,h=>by simp[GY]at h;simp;exact⟨_,_,rfl,cU b h.1,AD b a ys h.2⟩
def okZ:Value->C->Bool
 | .int k n,.d (.int e c)=>k ==e && n ==c && k.wrap n ==n
 | .bool b,.d (.bool f)=>b ==f
 | .string s,.d (.str a)=>s.data.toList ==a.data.toList && jZ s.size maxLen
 | .slice O 0 0,.nil k _=>eP 0 k
 |_,_=>J
def L5:M Value->M C->Bool
 |[],[]=>I
 |v::vs,c::cs=>okZ v c && L5 vs cs
 |_,_=>J
theorem AE{γ w}:∀vs b,L5 vs b=I->gY γ w b vs
 |[],[],_=>by simp[gY]
 |[],_::_,h=>by simp[L5]at h
 |_::_,[],h=>by simp[L5]at h
 |v::vs,c::b,h=>by simp[L5]at h;refine⟨v,vs,rfl,?_,AE vs b h.2⟩;have ok:=h.1;unfold okZ at ok;split at ok;{simp at ok;obtain⟨⟨rfl,rfl⟩,a⟩:=ok;exact jE a};{simp at ok;subst ok;exact jI};{simp only[aw,beq_iff_eq,Nat.ble_eq]at ok;obtain⟨d,a⟩:=ok;rw[Mn d]at a ⊢;exact CG a};{simp at ok;simp only[CR];exact⟨trivial,ok⟩};cases ok
def Kf(P:Program)(T:TypeId):u Bool:=
 match P.underlying T with
 |some (.struct _)=>Z I
 |some (.array _ _)=>Z I
 |some _=>Z J
 |none=>O
def qo(P:Program)(T:TypeId):u Nat:=(P.info? T).map (·.size)
theorem tm{P T b}(h:Kf P T=Z b)w:(isAgg T).run P w=.ok b w:=by unfold Kf at h;cases a:P.underlying T with|none=>{rw[a]at h;cases h}|some d=>rw[a]at h;cases d<;>simp at h<;>subst h<;>simp[isAgg,run_underlying a]
theorem run_sizeOf{P T n}(h:qo P T=Z n)w:(pc T).run P w=.ok n w:=by unfold qo at h;cases a:P.info? T with|none=>{rw[a]at h;cases h}|some i=>rw[a]at h;cases h;simp[pc,typeInfo,a]
def aag(P:Program)(T:TypeId)(i o:Nat):Bool:=
 match P.underlying T with
 |some (.struct fs)=>match fs[i]? with
  |some a=>a.offset ==o && (match qo P a.type with
   |some n=>eP 0 n
   |none=>J)
  |none=>J
 |_=>J
def aho(P:Program)(T:TypeId)(i o:Nat):Bool:=
 match P.underlying T with
 |some (.struct fs)=>match fs[i]? with
  |some a=>a.offset ==o && Kf P a.type ==Z J
  |none=>J
 |_=>J
def sliceB(P:Program)(T:TypeId)(k:Nat):Bool:=
 match P.underlying T with
 |some (.slice a)=>qo P a ==Z k
 |_=>J
def akT(P:Program)(T:TypeId)(n k:Nat):Bool:=
 match P.underlying T with
 |some (.array m a)=>m ==n && qo P a ==Z k
 |_=>J
def akU(P:Program)(T:TypeId):Bool:=
 match P.underlying T with
 |some (.array _ a)=>(P.info? a).isSome
 |_=>J
def isStr(P:Program)(T:TypeId):Bool:=
 match P.underlying T with
 |some .string=>I
 |_=>J
def Rc(P:Program)(T:TypeId):Bool:=
 match P.underlying T with
 |some (.slice _)=>I
 |_=>J
def Mm(P:Program)(T:TypeId):u Nat:=
 match P.underlying T with
 |some (.slice a)=>qo P a
 |_=>O
def ahV(P:Program)(T:TypeId):Bool:=
 match P.underlying T with
 |some (.slice a)=>(match P.underlying a with
  |some (.int .u8)=>I
  |_=>J)
 |_=>J
def isBool(P:Program)(T:TypeId):Bool:=
 match P.underlying T with
 |some .bool=>I
 |_=>J
def ad1(P:Program)(T:TypeId):u IntKind:=
 match P.underlying T with
 |some (.int k)=>Z k
 |_=>O
def xd(P:Program)(T:TypeId):u (M (Nat×Nat)):=
 match P.underlying T with
 |some (.struct fs)=>fs.toList.mapM (λf=>(P.info? f.type).map λi=>(f.offset,i.size))
 |_=>O
def uW(P:Program)(T:TypeId):u (M Value):=((P.info? T).bind (·.zero)).map λa=>a.cells.toList
def wY(N:Nat)(pl:M (Nat×Nat)):M (Nat×Operand)->M (Nat×Nat×KX)->Bool
 |[],[]=>I
 |(i,x)::a,(o,n,kx)::b=>pl[i]? ==Z (o,n) && lN N x kx && wY N pl a b
 |_,_=>J
def O0(N:Nat):u Operand->u KX->Bool
 |none,O=>I
 |some x,Z y=>lN N x y
 |_,_=>J
theorem AG{γ j io e s f w N}(i:Inv γ j io e s f w){o kx a m}(c:O0 N o kx=I)(b:Cx s kx a=Z m):P0 (fr f N).eval o a m:=by cases o with|none=>{cases kx with|none=>{simp[Cx]at b;simp[P0];exact b.symm}|some y=>simp[O0]at c}|some x=>cases kx with|none=>{simp[O0]at c}|some y=>simp[O0]at c;have d:=cU i c;simp[Cx]at b;split at b;{rename_i n h;rw[h]at d;obtain⟨g,_⟩:=lZ d;split at b;{cases b;simp[P0,g];omega};cases b};cases b
def AA(P:Program)(N:Nat):Op->KO->Bool
 | .move x,.mv y=>lN N x y
 | .assign x,.mv y=>lN N x y
 | .pick c a b,.pick v A w=>lN N c v && lN N a A && lN N b w
 | .build T p,.build m t=>(match uW P T,xd P T with
   |some d,Z pl=>L5 d m && wY N pl p.toList t
   |_,_=>J)
 | .load T x,.ld n y=>lN N x y && (if n=0 then Kf P T ==Z J else Kf P T ==Z I && qo P T ==Z n)
 | .fieldAddr T x i,.fa o y=>lN N x y && aag P T i o
 | .indexAddr T x i,.ia k y j=>lN N x y && lN N i j && sliceB P T k
 | .build T p,.zro m=>p.isEmpty && akU P T && (match uW P T with
   |some d=>L5 d m
   |none=>J)
 | .indexAddr T x i,.ixa n k y j=>lN N x y && lN N i j && akT P T n k
 | .index T x i,.six y j=>lN N x y && lN N i j && isStr P T
 | .binOp op T x y _,.bin g f e=>Z' (op=g) && lN N x f && lN N y e
 | .binOp op T x y _,.Yd g f e=>Z' (op=g) && lN N x f && lN N y e && isBool P T
 | .unOp .not _ x,.not y=>lN N x y
 | .unOp .neg _ x,.neg y=>lN N x y
 | .convert T s x,.conv k y=>lN N x y && (ad1 P T).isSome && ad1 P s ==Z k
 | .call c,.len y=>(match c.callee,c.args.toList,c.argTypes.toList with
   | .builtin .len,[x],[T]=>lN N x y && Rc P T
   |_,_,_=>J)
 | .call c,.sln y=>(match c.callee,c.args.toList,c.argTypes.toList with
   | .builtin .len,[x],[T]=>lN N x y && isStr P T
   |_,_,_=>J)
 | .call c,.min y e=>(match c.callee,c.args.toList with
   | .builtin .min,[x,f]=>lN N x y && lN N f e
   |_,_=>J)
 | .call c,.max y e=>(match c.callee,c.args.toList with
   | .builtin .max,[x,f]=>lN N x y && lN N f e
   |_,_=>J)
 | .extract x i,.ext y j=>lN N x y && i ==j
 | .slice T x O (Z h) O,.slc y j=>lN N x y && lN N h j && Rc P T && (Mm P T).isSome
 | .slice T x q r O,.MZ y l h=>lN N x y && O0 N q l && O0 N r h && isStr P T
 | .slice T x q r O,.AS k y l h=>lN N x y && O0 N q l && O0 N r h && Mm P T ==Z k
 | .nilCheck x,.nck y=>lN N x y
 | .convert T s x,.Qt y=>lN N x y && isStr P s && ahV P T
 | .field T x i,.fld o y=>lN N x y && aho P T i o
 | .makeFunc (.func F) fs cs,.mkf G ys=>F ==G && fs.isEmpty && GY N cs.toList ys
 |_,_=>J
theorem ek{a:Type}:∀(l:M a) (i),nth l i=l[i]?
 |[],i=>by simp[nth]
 |x::l,0=>by simp[nth]
 |x::l,i+1=>by simp[nth,ek l i]
theorem gY.length{γ w}:∀{a vs},gY γ w a vs->vs.length=a.length
 |[],_,h=>by simp[gY]at h;simp[h]
 |c::a,_,h=>by obtain⟨v,d,rfl,_,b⟩:=h;simp[gY.length b]
theorem gY.at_{γ w}:∀{b vs},gY γ w b vs->∀{i:Nat} {c},b[i]?=Z c->∃v,vs[i]?=Z v/\CR γ w c v
 |[],_,_,i,c,a=>by simp at a
 |x::b,_,h,i,c,a=>by obtain⟨v,f,rfl,e,d⟩:=h;cases i with|zero=>{cases a;exact⟨v,rfl,e⟩}|succ i=>simp at a;simpa using gY.at_ d a
theorem gY.drop{γ w}:∀{a vs} (n),gY γ w a vs->gY γ w (a.drop n) (vs.drop n)
 |a,_,0,h=>by simpa using h
 |[],_,n+1,h=>by cases h;simp[gY]
 |c::a,_,n+1,h=>by obtain⟨v,d,rfl,_,b⟩:=h;simpa using gY.drop n b
theorem gY.take{γ w}:∀{a vs} (n),gY γ w a vs->gY γ w (a.take n) (vs.take n)
 |a,_,0,h=>by simp[gY]
 |[],_,n+1,h=>by cases h;simp[gY]
 |c::a,_,n+1,h=>by obtain⟨v,e,rfl,d,b⟩:=h;simp;exact⟨v,_,rfl,d,gY.take n b⟩
theorem gY.append{γ w}:∀{b e vs d},gY γ w b vs->gY γ w e d->gY γ w (b++e) (vs++d)
 |[],_,_,_,h,a=>by cases h;simpa using a
 |c::b,_,_,_,h,a=>by obtain⟨v,i,rfl,g,f⟩:=h;simp;exact⟨v,_,rfl,g,gY.append f a⟩
def gY.spl{γ w cs b vs us}o(h:gY γ w cs vs)(a:gY γ w b us):gY γ w (nM cs o b) (eE vs o us):=by unfold nM eE;rw[<- a.length];exact ((h.take o).append a).append (h.drop _)
theorem gY.ofC{γ w}:∀{a vs F},gK w a vs F->dW γ.h F->gY γ w (a.map .d) vs
 |[],_,_,h,_=>by simp[gK]at h;simp[gY,h.1]
 |d::a,_,_,h,b=>by obtain⟨v,f,g,i,rfl,rfl,e,c⟩:=h;simp;refine⟨v,f,rfl,?_,gY.ofC c (b.sub (by simp_all))⟩;simp[CR];exact⟨g,e,b.sub (by simp_all)⟩
theorem CR.cells{γ w c v}(h:CR γ w c v)(a:c.cells.all C.cell=I):gY γ w c.cells v.cells.toList/\(c.isAgg=J->v.cells=#[v])/\(c.isAgg=I->∃vs:M Value,v=.agg vs.toArray):=by cases c with|agg m=>{obtain⟨vs,rfl,g⟩:=h;exact⟨by simpa [C.cells,Value.cells] using g,by simp[C.isAgg],λ_=>⟨vs,rfl⟩⟩}|d x=>{have f:=h;obtain⟨F,i,_⟩:=h;have j:=i.xV;(have e:v.cells=#[v]:=by cases v<;>simp_all[Value.cells,one]);refine⟨?_,λ_=>e,by simp[C.isAgg]⟩;rw[e];simp;exact⟨v,[],rfl,f,rfl⟩}|nil k l=>{have f:=h;obtain⟨rfl,_⟩:=h;refine⟨?_,λ_=>rfl,by simp[C.isAgg]⟩;simp only[Value.cells];exact⟨_,[],rfl,f,rfl⟩}|ref r=>{have f:=h;obtain⟨_,A,n,c,rfl⟩:=h;refine⟨?_,λ_=>rfl,by simp[C.isAgg]⟩;simp only[Value.cells];exact⟨_,[],rfl,f,rfl⟩}|ptr _ _=>{simp[C.cells,C.cell]at a}|pG _ _ _ _=>{simp[C.cells,C.cell]at a}|vc _=>{simp[C.cells,C.cell]at a}|tv _=>{simp[C.cells,C.cell]at a}|fn _ _=>{simp[C.cells,C.cell]at a}|wq=>{simp[C.cells,C.cell]at a}|any=>simp[C.cells,C.cell]at a
theorem abV off:∀vs j A,off+j+vs.length<=A.size->(vs.zipIdx j).foldl (λa p=>a.setIfInBounds (off+p.2) p.1) A=(eE A.toList (off+j) vs).toArray
 |[],j,A,_=>by simp[eE]
 |v::vs,j,A,h=>by simp at h;simp;rw[abV off vs (j+1) _ (by simp;omega),<- ij,<- Df _ _ _ _ (by simp;omega)];simp
def Ux off vs A(h:off+vs.length<=A.size):vs.toArray.zipIdx.foldl (λa (c,j)=>a.setIfInBounds (off+j) c) A=(eE A.toList off vs).toArray:=by have b:=abV off vs 0 A (by simpa using h);simp_all
theorem N1{γ P io y s f w N}(v:Inv γ P io y s f w){pl place}(t:∀i,place i=pl[i]?):
  ∀k l g a d,wY N pl k l=I->gY γ w g a->E4 g (l.map λp=>(p.1,p.2.1,(gF s p.2.2).cells))=Z d->
   ∃q:M Value,Instr.fill place a.toArray (k.map λp=>(p.1,(fr f N).eval p.2))=Z q.toArray/\gY γ w d q
 |[],[],g,a,d,_,m,b=>by cases b;exact⟨a,rfl,m⟩
 |[],_::_,_,_,_,h,_,_=>by simp[wY]at h
 |_::_,[],_,_,_,h,_,_=>by simp[wY]at h
 |(i,x)::k,(o,n,kx)::l,g,a,d,h,m,b=>by simp[wY,beq_iff_eq]at h;obtain⟨⟨L,K⟩,H⟩:=h;simp only[bz,E4]at b;split at b;{rename_i D;obtain⟨c1,T,R⟩:=D;have B:=cU v K;obtain⟨r,_,_⟩:=B.cells R;have C:=r.length;obtain⟨q,G,F⟩:=N1 v t k l _ _ d H (m.spl o r) b;refine⟨q,?_,F⟩;simp only[bz,Instr.fill,t,L];(have S:((fr f N).eval x).cells.size=n:=by rw[<- jv,C];exact c1);have A:=m.length;rw[if_neg (by simp only[List.size_toArray];simp;omega)];have e:((fr f N).eval x).cells.zipIdx.foldl (λQ (c,j)=>Q.setIfInBounds (o+j) c) a.toArray=(eE a o ((fr f N).eval x).cells.toList).toArray:=by{have:=Ux o ((fr f N).eval x).cells.toList a.toArray (by simp;omega);simpa using this};rw[e];exact G};cases b
theorem Y_{P T a pl}(c:uW P T=Z a)(d:xd P T=Z pl)parts:P.built T parts=Instr.fill (λi=>pl[i]?) a.toArray parts:=by unfold xd at d;unfold uW at c;cases e:P.info? T with|none=>{rw[e]at c;simp at c}|some f=>rw[e]at c;cases b:f.zero with|none=>{simp[b]at c}|some z0=>simp[b]at c;subst c;split at d;{rename_i fs g;simp only[Program.built,e,g,b,d];simp};cases d
section
variable {P:Program} {γ:Gh} {h0:Nat->Nat} {io:M Nat} {w0:World} {s:St} {f:Fm} {w:World} {N:Nat} {dst:u Tmp} {ty:TypeId} {pos:String} {aft:Array Edge} {gd:u (Nat×Bool)}
abbrev SD(P:Program)(γ:Gh)(s:St)(f:Fm)(w:World)(N:Nat)(ld:Bool)(c:C)(o:Oper):Prop:=∃v,CR γ w c v/\∀a,(ld=I->qT γ s w a)->(execOp (fr f N).eval o).run P a=.ok (.value v) a
theorem aeT(o:Inv γ h0 io w0 s f w){T d g h c}(b:AA P N (.build T d) (.build g h)=I)(e:jw s (.build g h)=Z c):
  SD P γ s f w N J c ⟨dst,.build T d,ty,pos,aft,gd⟩:=by simp[AA]at b;split at b;{rename_i a pl m n;simp at b;simp[jw]at e;obtain⟨l,e,rfl⟩:=e;obtain⟨j,r,q⟩:=N1 o (place:=λi=>pl[i]?) (λ_=>rfl) d.toList h g a l b.2 (AE _ _ b.1) e;refine⟨.agg j.toArray,by simp only[CR];exact⟨j,rfl,q⟩,λk _=>?_⟩;have p:=run_build (P:=P) k T (d.map λ(i,x)=>(i,(fr f N).eval x)) j.toArray (by rw[Y_ m n];simpa using r);simp[execOp,p]};cases b
theorem aok(i:Inv γ h0 io w0 s f w){T n l c}(g:AA P N (.build T n) (.zro l)=I)(j:jw s (.zro l)=Z c):
  SD P γ s f w N J c ⟨dst,.build T n,ty,pos,aft,gd⟩:=by simp[AA,Array.isEmpty_iff]at g;obtain⟨⟨rfl,h⟩,g⟩:=g;split at g;{rename_i a e;simp only[jw]at j;split at j;{cases j;refine⟨.agg a.toArray,by simp only[CR];exact⟨a,rfl,AE _ _ g⟩,λo _=>?_⟩;have t:P.built T []=Z a.toArray:=by{unfold uW at e;unfold akU at h;cases i:P.info? T with|none=>{rw[i]at e;simp at e}|some p=>rw[i]at e;cases d:p.zero with|none=>{simp[d]at e}|some z0=>simp[d]at e;subst e;split at h;{rename_i m b q;rw[cu]at h;obtain⟨v,k⟩:=h;simp[Program.built,i,q,d,k,Instr.fill]};cases h};have r:=run_build (P:=P) o T #[] a.toArray t;simp[execOp,r]};cases j};cases g
theorem aiv(hi:Inv γ h0 io w0 s f w){T x y n c}(du:AA P N (.load T x) (.ld n y)=I)(q:jw s (.ld n y)=Z c):
  ∃v,CR γ w c v/\∀l,qT γ s w l->(execOp (fr f N).eval ⟨dst,.load T x,ty,pos,aft,gd⟩).run P l=.ok (.value v) l:=by simp only[AA,aw]at du;obtain⟨hx,oS⟩:=du;have Q:=cU hi hx;have fin:∀b o vs,(fr f N).eval x=.pointer (Z ⟨b,o,O⟩)->(∀l,qT γ s w l->j5 l b o vs)->(n=0->vs.length=1)->(n≠0->vs.length=n)-> ∀l,qT γ s w l->(execOp (fr f N).eval ⟨dst,.load T x,ty,pos,aft,gd⟩).run P l=.ok (.value (if n=0 then vs.headD undef else .agg vs.toArray)) l:=by{intro b o vs R D h1 V l t;by_cases B:n=0;{subst B;simp at oS ⊢;obtain⟨v,rfl⟩:=dd.1 (h1 rfl);exact MJ (λw=>tm oS w) R (by have:=D l t 0 v rfl;simpa using this)};simp only[if_neg B,aw,beq_iff_eq]at oS ⊢;exact MK (λw=>tm oS.1 w) (λw=>run_sizeOf oS.2 w) R (V B) (D l t)};simp only[jw]at q;split at q;{rename_i b o U;rw[U]at Q;simp only[CR]at Q;split at q;{rename_i cs D;obtain⟨T',vs,h1,V,h3⟩:=hi.bx b cs D;have C:=V.length;have K:∀m l,qT γ s w l->j5 l (γ.β b) o ((vs.drop o).take m):=by{intro m l t;have:=(h1.ey (t.bx b cs D)).Xh;have h4:=this.sub o m;simpa using h4};by_cases B:n=0;{subst B;simp only[if_true,ek]at q;obtain⟨v,L,hc⟩:=V.at_ q;have gk:=(bn.1 L).1;have W:(vs.drop o).take 1=[v]:=by{rw[List.take_one,List.head?_drop,L];rfl};refine⟨v,hc,λl t=>?_⟩;have:=fin _ _ _ Q (K 1) (λ_=>by rw[W];rfl) (λh=>absurd rfl h) l t;rw[W]at this;simpa using this};rw[if_neg B]at q;split at q;{rename_i ho;cases q;refine⟨.agg ((vs.drop o).take n).toArray,by simp only[CR];exact⟨_,rfl,(V.drop o).take n⟩,λl t=>?_⟩;have:=fin _ _ _ Q (K n) (λh=>absurd h B) (λ_=>by simp;omega) l t;simpa [B] using this};cases q};cases q};{rename_i cs U;rw[U]at Q;obtain⟨b,o,vs,F,R,Y,jt,D,hh⟩:=Q;have C:=gK.length cs Y;have K:∀m l,qT γ s w l->j5 l b o (vs.take m):=by{intro m l t;have:j5 l b o vs:=by{intro j a hu;have hj:=(bn.1 hu).1;rw[t.cell b (o+j) (hh j (by omega))];exact D j a hu};have h4:=this.sub 0 m;simpa using h4};by_cases B:n=0;{subst B;simp only[if_true,ek,aC]at q;obtain⟨d,hd,rfl⟩:=q;obtain⟨v,G,L,tF,hG⟩:=Y.at_ hd;have W:vs.take 1=[v]:=by{rw[List.take_one,List.head?_eq_getElem?,L];rfl};refine⟨v,by simp only[CR];exact⟨G,tF,jt.sub hG⟩,λl t=>?_⟩;have:=fin _ _ _ R (K 1) (λ_=>by rw[W];rfl) (λh=>absurd rfl h) l t;rw[W]at this;simpa using this};rw[if_neg B]at q;split at q;{rename_i ho;cases q;obtain⟨G,h4,h5⟩:=gK.take cs n Y;refine⟨.agg (vs.take n).toArray,by simp only[CR];exact⟨_,rfl,gY.ofC h4 (jt.sub h5)⟩,λl t=>?_⟩;have:=fin _ _ _ R (K n) (λh=>absurd h B) (λ_=>by simp;omega) l t;simpa [B] using this};cases q};{rename_i r k i o U;rw[U]at Q;obtain⟨g,p,m,cc,mW,R⟩:=Q;split at q;{rename_i row D;split at q;{rename_i e BN;split at q;{rename_i hc;obtain⟨hk,ho,P8⟩:=hc;subst hk;obtain⟨F,hR,_,wP⟩:=hi.rw r row D;obtain⟨A,n',c',q1,q2,q3,q4,q5,q6,q7,q8⟩:=hR;rw[mW]at q1;cases q1;rcases q8 with ⟨q8,_⟩|⟨g',p',X,G,a1,a2,a3,a4,a5,a6,a7,a8,a9,xw⟩;{cases q8};cases a1;rw[ek]at BN;obtain⟨G',Y,hG'⟩:=a4.at_ q6 BN;have hlx:=iQ.length row.es a4 q6;have ahC:=(bn.1 BN).1;have HR:=q6 e (fR BN);have hgF:g∈F:=by{cases hd:row.deep with|true=>{rw[(a9 hd).1];simp}|false=>rw[(xw hd).1];simp};have K:∀m l,qT γ s w l->j5 l g (p+i * row.k+o) ((((X.drop (i * row.k)).take row.k).drop o).take m):=by{intro m l t;have h1:j5 l g p X:=a5.ey (t.rw r row D g (wP g hgF));have V:=(h1.sub (i * row.k) row.k).sub o m;exact V};have agp:∀m,dc ((e.drop o).take m)=I\/row.deep=J->∃G2,gK w ((e.drop o).take m) ((((X.drop (i * row.k)).take row.k).drop o).take m) G2/\dW γ.h G2:=by{intro m S;obtain⟨G1,r1,s1⟩:=gK.drop e o Y;obtain⟨G2,H,s2⟩:=gK.take _ m r1;refine⟨G2,H,?_⟩;rcases S with S|S;{have:G2=[]:=H.plain (by simpa [dc] using S);subst this;exact λ_ h=>by simp at h};exact (xw S).2.sub (λbe U=>hG' be (s1 be (s2 be U)))};have al7:∀m,m=max n 1->dc ((e.drop o).take m)=I\/row.deep=J:=by{intro m S;subst S;simpa using P8};have C:((X.drop (i * row.k)).take row.k).length=row.k:=by{rw[gK.length e Y,HR]};by_cases B:n=0;{subst B;simp only[if_true,ek,aC]at q;obtain⟨d,hd,rfl⟩:=q;obtain⟨G2,H,s2⟩:=agp 1 (al7 1 (by simp));(have W:(e.drop o).take 1=[d]:=by rw[List.take_one,List.head?_drop,hd];rfl);rw[W]at H;obtain⟨v,G3,L,tF,hG4⟩:=H.at_ (i:=0) (d:=d) rfl;have e2:(((X.drop (i * row.k)).take row.k).drop o).take 1=[v]:=by{have MU:=gK.length _ H;simp only[aN,aJ]at MU;obtain⟨a,hu⟩:=dd.1 MU;rw[hu]at L ⊢;simp at L;rw[L]};refine⟨v,by simp only[CR];exact⟨G3,tF,s2.sub hG4⟩,λl t=>?_⟩;have:=fin _ _ _ R (K 1) (λ_=>by rw[e2];rfl) (λh=>absurd rfl h) l t;rw[e2]at this;simpa using this};rw[if_neg B]at q;cases q;(have ahE:max n 1=n:=by omega);obtain⟨G2,H,s2⟩:=agp n (al7 n ahE.symm);refine⟨.agg ((((X.drop (i * row.k)).take row.k).drop o).take n).toArray,by simp only[CR];exact⟨_,rfl,gY.ofC H s2⟩,λl t=>?_⟩;have:=fin _ _ _ R (K n) (λh=>absurd h B) (λ_=>by simp only[bk,kO,C];omega) l t;simpa [B] using this};cases q};cases q};cases q};cases q
theorem arx(V:Inv γ h0 io w0 s f w){T x y i o c}(D:AA P N (.fieldAddr T x i) (.fa o y)=I)(h:jw s (.fa o y)=Z c):
  SD P γ s f w N J c ⟨dst,.fieldAddr T x i,ty,pos,aft,gd⟩:=by simp[AA]at D;obtain⟨L,d⟩:=D;have e:=cU V L;unfold aag at d;split at d;{rename_i fs v;split at d;{rename_i fd C;simp at d;obtain⟨Q,A⟩:=d;split at A;{rename_i n R;simp at A;obtain⟨m,rfl⟩:∃m,n=m+1:=⟨n - 1,by omega⟩;have fin:∀b p,(fr f N).eval x=.pointer (Z ⟨b,p,O⟩)->∀t,(J=I->qT γ s w t)->(execOp (fr f N).eval ⟨dst,.fieldAddr T x i,ty,pos,aft,gd⟩).run P t=.ok (.value (.pointer (Z ⟨b,p+o,O⟩))) t:= λb p B t _=>afV v C (λw=>run_sizeOf R w) Q B;simp[jw]at h;split at h;{rename_i b p l;rw[l]at e;simp[CR]at e;cases h;exact⟨_,by simp[CR],fin _ _ e⟩};{rename_i cs l;rw[l]at e;cases h;obtain⟨b,p,vs,F,B,La,H,S,W⟩:=e;obtain⟨G,Y,X⟩:=gK.drop cs o La;refine⟨_,?_,fin _ _ B⟩;refine⟨b,p+o,vs.drop o,G,rfl,Y,H.sub X,?_,?_⟩;{intro j a v;rw[List.getElem?_drop]at v;rw[ij];exact S _ a v};intro j U;rw[kO]at U;rw[ij];exact W _ (by omega)};{rename_i r k K p l;rw[l]at e;cases h;obtain⟨g,q,n,cc,h1,h2⟩:=e;refine⟨_,?_,fin _ _ h2⟩;exact⟨g,q,n,cc,h1,by rw[ij (q+K * k)]⟩};cases h};cases A};cases d};cases d
theorem ary(H:Inv γ h0 io w0 s f w){T x ix y j k c}(W:AA P N (.indexAddr T x ix) (.ia k y j)=I)(d:jw s (.ia k y j)=Z c):
  SD P γ s f w N J c ⟨dst,.indexAddr T x ix,ty,pos,aft,gd⟩:=by simp[AA]at W;obtain⟨⟨hx,hj⟩,g⟩:=W;have h:=cU H hx;have v:=cU H hj;unfold sliceB at g;split at g;{rename_i a U;simp at g;simp[jw]at d;split at d;{rename_i p fl es n q D;rw[q]at h;rw[D]at v;obtain⟨B,_⟩:=lZ v;split at d;{rename_i K;obtain⟨h1,rfl⟩:=K;simp[ek]at d;obtain⟨e,Q,rfl⟩:=d;obtain⟨F,⟨A,m,cc,t,q2,q3,q4,q5,q6,C,l⟩,S⟩:=h;have gk:=(bn.1 Q).1;rcases l with ⟨l,_⟩|⟨_,b,o,X,G,rfl,rfl,a2,a3⟩;{omega};refine⟨.pointer (Z ⟨b,o+n.toNat * p,O⟩),?_,λY _=>rE U (λw=>run_sizeOf g w) t B (by omega) (by omega)⟩;obtain⟨G',La,L⟩:=a2.at_ C Q;simp only[CR];refine⟨b,_,_,G',rfl,La,S.sub (λbe q=>by simp[L be q]),a3.sub _ _,?_⟩;intro i C5;have HR:=C e (fR Q);have hs:=S (b,o+m * p) (by simp);simp only at hs;have:n.toNat * p+p<=m * p:=by{rw[<- ot];exact eK _ (by omega)};omega};cases d};{rename_i r n q D;rw[q]at h;rw[D]at v;obtain⟨B,_⟩:=lZ v;split at d;{rename_i row hl;split at d;{rename_i K;obtain⟨h1,h2,rfl⟩:=K;cases d;obtain⟨h,_⟩:=h;obtain⟨F,hR,_,wP⟩:=H.rw r row hl;obtain⟨A,n',c',t,q2,q3,q4,q5,q6,C,l⟩:=hR;rcases l with ⟨rfl,l,_⟩|⟨V,R,X,G,rfl,a2,a3,a4,a5,a6,a7,a8,a9,xw⟩;{omega};refine⟨.pointer (Z ⟨V,R+n.toNat * row.k,O⟩),?_,λY _=>rE U (λw=>run_sizeOf g w) (h.trans t) B (by omega) (by omega)⟩;simp only[CR];exact⟨V,R,n',c',t,by simp⟩};cases d};cases d};cases d};cases g
theorem adn{ρ x y b o n}{i:Nat}{a T c k}(j:P.underlying T=Z (.array n c))(l:∀w,(pc c).run P w=.ok k w)(e:ρ x=.pointer (Z ⟨b,o,O⟩))(d:ρ y=.int .i64 a)(h:a=(i:Int))(g:i<n):
  (execOp ρ ⟨dst,.indexAddr T x y,ty,pos,aft,gd⟩).run P w=.ok (.value (.pointer (Z ⟨b,o+i * k,O⟩))) w:=by subst h;simp[execOp,Instr.indexAt,e,d,asIntOf,Instr.sureAddr,run_underlying j,l,rJ,g]
theorem aoe(h:Inv γ h0 io w0 s f w){T x ix y j n k c}(i:AA P N (.indexAddr T x ix) (.ixa n k y j)=I)(d:jw s (.ixa n k y j)=Z c):
  SD P γ s f w N J c ⟨dst,.indexAddr T x ix,ty,pos,aft,gd⟩:=by simp[AA]at i;obtain⟨⟨t,B⟩,e⟩:=i;have g:=cU h t;have l:=cU h B;unfold akT at e;split at e;{rename_i m a v;simp at e;obtain⟨rfl,r⟩:=e;simp[jw]at d;split at d;{rename_i b o q D A;rw[D]at g;rw[A]at l;obtain⟨p,_⟩:=lZ l;simp[CR]at g;split at d;{rename_i C;cases d;exact⟨_,by simp[CR],λF _=>adn v (λw=>run_sizeOf r w) g p (by omega) C.2⟩};cases d};cases d};cases e
theorem aog(e:Inv γ h0 io w0 s f w){T x ix y j c}(g:AA P N (.index T x ix) (.six y j)=I)(a:jw s (.six y j)=Z c):
  SD P γ s f w N J c ⟨dst,.index T x ix,ty,pos,aft,gd⟩:=by simp[AA]at g;obtain⟨⟨l,p⟩,b⟩:=g;have d:=cU e l;have h:=cU e p;unfold isStr at b;split at b;{rename_i m;simp[jw]at a;split at a;{rename_i t n r o;rw[r]at d;rw[o]at h;obtain⟨i,_⟩:=lZ h;obtain⟨k,_⟩:=EF d;split at a;{rename_i q;cases a;refine⟨_,jE ?_,λv _=>adp m k i (by omega) q.2⟩;have:=mH t n.toNat;simp[IntKind.wrap,IntKind.bits,IntKind.signed];omega};cases a};cases a};cases b
theorem yv{n}(h:IntKind.i64.wrap n=n):-9223372036854775808<=n/\n<=9223372036854775807:=by simp[IntKind.wrap,IntKind.bits,IntKind.signed]at h;split at h<;>omega
theorem iJ{n}(h:-9223372036854775808<=n/\n<=9223372036854775807):IntKind.i64.wrap n=n:=IntWalk.i64_in _ h
theorem wrap_wrap(k:IntKind)n:k.wrap (k.wrap n)=k.wrap n:=by cases k<;>simp[IntKind.wrap,IntKind.signed]<;>(repeat' split)<;>simp_all<;>omega
theorem aob(K:Inv γ h0 io w0 s f w){op T Q x H y G c}(L:AA P N (.binOp op T x H Q) (.bin op y G)=I)(m:jw s (.bin op y G)=Z c):
  SD P γ s f w N J c ⟨dst,.binOp op T x H Q,ty,pos,aft,gd⟩:=by simp only[AA,aw]at L;obtain⟨⟨_,S⟩,W⟩:=L;have t:=cU K S;have A:=cU K W;simp only[jw]at m;unfold U_ at m;split at m;{rename_i k a R b F C;rw[F]at t;rw[C]at A;obtain⟨h,l⟩:=lZ t;obtain⟨g,q⟩:=lZ A;split at m;{rename_i V;subst V;simp at m;obtain⟨d,hd,rfl⟩:=m;unfold Y3 at hd;split at hd;(all_goals (try (simp at hd;subst hd)));{exact⟨_,jE (wrap_wrap _ _),λi _=>by simp[execOp,h,g,binOp,Op.intArith,eqGuard]⟩};{exact⟨_,jE (wrap_wrap _ _),λi _=>by simp[execOp,h,g,binOp,Op.intArith,eqGuard]⟩};{exact⟨_,jE (wrap_wrap _ _),λi _=>by simp[execOp,h,g,binOp,Op.intArith,eqGuard]⟩};{exact⟨_,jI,λi _=>A9 h g rfl⟩};{exact⟨_,jI,λi _=>ap8 h g rfl⟩};{exact⟨_,jI,λi _=>ap7 h g rfl⟩};{exact⟨_,jI,λi _=>ado h g rfl⟩};{exact⟨_,jI,λi _=>ap6 h g rfl⟩};{exact⟨_,jI,λi _=>ap9 h g (by simp)⟩};{split at hd;{rename_i j;obtain⟨rfl,o,v⟩:=j;cases hd;have B:=yv l;have r:0<=a / b/\a / b<=a:=⟨Int.ediv_nonneg o (by omega),Int.ediv_le_self _ o⟩;(have p:¬b=0:=by omega);have e:a.tdiv b=a / b:=Int.tdiv_eq_ediv_of_nonneg o;have n:IntKind.i64.wrap (a / b)=a / b:=iJ (by omega);exact⟨_,jE n,λi _=>by simp[execOp,h,g,binOp,Op.intDiv,eqGuard,p,e,n]⟩};split at hd;{rename_i j;obtain⟨rfl,o,v⟩:=j;cases hd;have B:=yv l;have r:0<=-a / b/\-a / b<=-a:=⟨Int.ediv_nonneg (by omega) (by omega),Int.ediv_le_self _ (by omega)⟩;(have p:¬b=0:=by omega);have e:a.tdiv b=-(-a / b):=by{have:=Int.neg_tdiv (-a) b;rw[uG]at this;rw[this,Int.tdiv_eq_ediv_of_nonneg (by omega)]};have n:IntKind.i64.wrap (-(-a / b))=-(-a / b):=iJ (by omega);exact⟨_,jE n,λi _=>by simp[execOp,h,g,binOp,Op.intDiv,eqGuard,p,e,n]⟩};cases hd};{split at hd;{rename_i j;obtain⟨rfl,o,v⟩:=j;cases hd;have B:=yv l;have r:0<=a % b/\a % b<b:=⟨Int.emod_nonneg _ (by omega),Int.emod_lt_of_pos _ (by omega)⟩;have D:=yv q;(have p:¬b=0:=by omega);have e:a.tmod b=a % b:=Int.tmod_eq_emod_of_nonneg o;have n:IntKind.i64.wrap (a % b)=a % b:=iJ (by omega);exact⟨_,jE n,λi _=>by simp[execOp,h,g,binOp,Op.intDiv,eqGuard,p,e]⟩};split at hd;{rename_i j;obtain⟨rfl,o,v⟩:=j;cases hd;have r:0<=-a % b/\-a % b<b:=⟨Int.emod_nonneg _ (by omega),Int.emod_lt_of_pos _ (by omega)⟩;have D:=yv q;(have p:¬b=0:=by omega);have e:a.tmod b=-(-a % b):=by{have:=Int.neg_tmod (-a) b;rw[uG]at this;rw[this,Int.tmod_eq_emod_of_nonneg (by omega)]};have n:IntKind.i64.wrap (-(-a % b))=-(-a % b):=iJ (by omega);exact⟨_,jE n,λi _=>by simp[execOp,h,g,binOp,Op.intDiv,eqGuard,p,e]⟩};cases hd};{exact⟨_,jE (wrap_wrap _ _),λi _=>by simp[execOp,h,g,binOp,Op.intBits,eqGuard]⟩};{exact⟨_,jE (wrap_wrap _ _),λi _=>by simp[execOp,h,g,binOp,Op.intBits,eqGuard]⟩};cases hd};simp at m;obtain⟨d,hd,rfl⟩:=m;unfold ajN at hd;split at hd;{split at hd;{rename_i j;obtain⟨rfl,o,v⟩:=j;cases hd;have B:=yv l;have U:(1:Int)<=2 ^ b.toNat:=Int.pow_pos (by decide);have r:-9223372036854775808<=a / 2 ^ b.toNat/\a / 2 ^ b.toNat<=9223372036854775807:=by{constructor;{rw[Int.le_ediv_iff_mul_le (by omega)];have:=Int.mul_le_mul_of_nonpos_left (by decide:(-9223372036854775808:Int)<=0) U;omega};have:=Int.ediv_le_ediv (c:=2 ^ b.toNat) (by omega) B.2;have X:=Int.ediv_le_self (a:=9223372036854775807) (2 ^ b.toNat) (by omega);omega};have n:IntKind.i64.wrap (a / 2 ^ b.toNat)=a / 2 ^ b.toNat:=iJ r;exact⟨_,jE n,λi _=>by have:=shift_shr .i64 R a b o (by simp[IntKind.bits];omega);simp[execOp,h,g,binOp,this,eqGuard]⟩};cases hd};cases hd};{rename_i a b F C;rw[F]at t;rw[C]at A;obtain⟨h,l⟩:=EF t;obtain⟨g,q⟩:=EF A;simp at m;obtain⟨d,hd,rfl⟩:=m;unfold Y4 at hd;split at hd;{split at hd;{rename_i j;cases hd;(have p:¬(((a.size+b.size:Nat):Int) > IntKind.i64.max):=by simp;simp[maxLen]at j;omega);refine⟨_,CG (by simpa using j),λi _=>?_⟩;simp only[execOp,h,g,binOp,Op.stringOp,eqGuard,if_neg p];simp};cases hd};{cases hd;exact⟨_,jI,λi _=>aku h g rfl⟩};{cases hd;exact⟨_,jI,λi _=>akw h g (by simp)⟩};{cases hd;exact⟨_,jI,λi _=>by simp[execOp,h,g,binOp,Op.stringOp,eqGuard,nD]⟩};{cases hd;exact⟨_,jI,λi _=>by simp[execOp,h,g,binOp,Op.stringOp,eqGuard,nD,om]⟩};{cases hd;exact⟨_,jI,λi _=>by simp[execOp,h,g,binOp,Op.stringOp,eqGuard,nD,om]⟩};{cases hd;exact⟨_,jI,λi _=>by simp[execOp,h,g,binOp,Op.stringOp,eqGuard,nD]⟩};cases hd};cases m
theorem aoa(m:Inv γ h0 io w0 s f w){op T p x i y h c}(o:AA P N (.binOp op T x i p) (.Yd op y h)=I)(e:jw s (.Yd op y h)=Z c):
  SD P γ s f w N J c ⟨dst,.binOp op T x i p,ty,pos,aft,gd⟩:=by simp only[AA,aw]at o;obtain⟨⟨⟨_,t⟩,A⟩,g⟩:=o;have l:=cU m t;have q:=cU m A;unfold isBool at g;split at g;{rename_i n;simp[jw]at e;split at e;{rename_i a b B v;rw[B]at l;rw[v]at q;have k:=tK l;have j:=tK q;simp at e;obtain⟨d,hd,rfl⟩:=e;unfold Y2 at hd;split at hd;{cases hd;exact⟨_,jI,λr _=>aks n k j rfl⟩};{cases hd;exact⟨_,jI,λr _=>akt n k j (by simp)⟩};cases hd};cases e};cases g
theorem IV{w}:∀(es) {xs G b},iQ w es xs G->bytesOf es=Z b->xs=b.map (Value.int .u8)/\b.length=es.length
 |[],xs,G,b,h,a=>by simp[iQ]at h;cases a;simp[h.1]
 |e::es,xs,G,b,h,a=>by obtain⟨v1,v2,t,r,rfl,rfl,k,j⟩:=h;unfold bytesOf at a;split at a;{rename_i l;cases l};{rename_i n o c;cases c;simp at a;obtain⟨m,i,rfl⟩:=a;obtain⟨g,d⟩:=IV es j i;obtain⟨v,p,q,G2,rfl,_,⟨rfl,_⟩,rfl,_⟩:=k;simp[g,d]};cases a
theorem aoc(L:Inv γ h0 io w0 s f w){T p x y c}(Q:AA P N (.convert T p x) (.Qt y)=I)(e:jw s (.Qt y)=Z c):
  ∃v,CR γ w c v/\∀j,qT γ s w j->(execOp (fr f N).eval ⟨dst,.convert T p x,ty,pos,aft,gd⟩).run P j=.ok (.value v) j:=by simp[AA]at Q;obtain⟨⟨Y,b⟩,d⟩:=Q;have m:=cU L Y;simp[jw]at e;split at e;{rename_i r hb;rw[hb]at m;simp[CR]at m;split at e;{rename_i row K;split at e;{rename_i hc;simp at e;obtain⟨l,q,rfl⟩:=e;obtain⟨F,hR,_,V⟩:=L.rw r row K;obtain⟨A,n,R,D,q2,q3,q4,q5,q6,q7,W⟩:=hR;rcases W with ⟨a1,hc0,_⟩|⟨g,o,U,G,a1,a2,a3,a4,a5,a6,a7,a8,a9,S⟩;{have HS:row.es=[]:=eZ.1 (by omega);rw[HS]at q;cases q;subst a1;refine⟨.string ByteArray.empty,CG (bI _),λj H=>?_⟩;unfold isStr at b;split at b;{rename_i k;unfold ahV at d;split at d;{rename_i a B;split at d;{rename_i C;have h:=run_convert_bytes_nil (P:=P) j T a B C n R p k;have t:=m.1.trans D;simp only[execOp,t,h,Sem.run_bind];rfl};cases d};cases d};cases b};have hg:g∈F:=by{cases hd:row.deep with|true=>{rw[(a9 hd).1];simp}|false=>rw[(S hd).1];simp};obtain⟨X,k2⟩:=IV _ a4 q;subst a1;refine⟨_,CG ?_,λj H=>?_⟩;{show (strOfNums l).size<=maxLen;rw[strOfNums_size];omega};have Ft:j5 j g o U:=a5.ey (H.rw r row K g (V g hg));unfold isStr at b;split at b;{rename_i k;unfold ahV at d;split at d;{rename_i a B;split at d;{rename_i C;have h:=run_convert_bytes_arg (P:=P) j T a B C g o n R l (by omega) (λi C5=>by (have Yi:i<l.length:=by omega);have:=Ft i (.int .u8 l[i]) (by rw[X];simp);rw[this];simp[Yi]) p k;have t:=m.1.trans D;simp[execOp,t,h,Result.andThen_ok];rfl};cases d};cases d};cases b};cases e};cases e};cases e
theorem aoi(V:Inv γ h0 io w0 s f w){T x ix y j c}(W:AA P N (.slice T x O (Z ix) O) (.slc y j)=I)(l:jw s (.slc y j)=Z c):
  SD P γ s f w N J c ⟨dst,.slice T x O (Z ix) O,ty,pos,aft,gd⟩:=by simp[AA]at W;obtain⟨⟨⟨hx,hj⟩,_⟩,m⟩:=W;have U:=cU V hx;have X:=cU V hj;obtain⟨d,m⟩:=cu.1 m;unfold Mm at m;split at m;{rename_i i p;simp[jw]at l;split at l;{rename_i k fl es a hb hn;rw[hb]at U;rw[hn]at X;obtain⟨u7,_⟩:=lZ X;split at l;{rename_i hc;cases l;obtain⟨F,⟨A,n,B,q1,q2,q3,K,H,D,q,C⟩,S⟩:=U;(have v:(es.take a.toNat).length=a.toNat:=by rw[bk];omega);refine⟨.slice A a.toNat B,?_,λw' _=>Su p (λw=>run_sizeOf m w) q1 u7 (by omega) (by omega)⟩;by_cases h0:a.toNat=0;{simp only[CR];exact⟨[],⟨A,a.toNat,B,rfl,v.symm,by omega,K,λt e l=>H t e (ed l),D,λe l=>q e (ed l),.inl ⟨h0,rfl⟩⟩,λ_ h=>by simp at h⟩};rcases C with C|⟨hp,b,o,xs,G,p1,Q,L,p4⟩;{omega};rw[<- cp a.toNat es]at L;obtain⟨v1,v2,Y,F2,rfl,rfl,R,k2⟩:=iQ.j6 _ L;have MU:=iQ.length _ R (λe l=>q e (ed l));rw[v]at MU;simp only[CR];refine⟨(b,o+a.toNat * k)::Y,⟨A,a.toNat,B,rfl,v.symm,by omega,K,λt e l=>H t e (ed l),D,λe l=>q e (ed l),.inr ⟨by omega,b,o,v1,Y,p1,rfl,R,?_⟩⟩,?_⟩;{intro j g p;exact p4 j g (by rw[eH (bn.1 p).1];exact p)};intro be r;rcases aU.1 r with rfl|r;{have:=S (b,o+n * k) (by rw[Q];simp);refine aS ?_ this;have:a.toNat * k<=n * k:=eK k (by omega);omega};exact S be (by rw[Q];simp[r])};cases l};cases l};cases m
theorem aoj(i:Inv γ h0 io w0 s f w){T x j o y a b c}(n:AA P N (.slice T x j o O) (.MZ y a b)=I)(e:jw s (.MZ y a b)=Z c):
  SD P γ s f w N J c ⟨dst,.slice T x j o O,ty,pos,aft,gd⟩:=by simp[AA]at n;obtain⟨⟨⟨q,v⟩,A⟩,g⟩:=n;have k:=cU i q;unfold isStr at g;split at g;{rename_i r;simp[jw]at e;split at e;{rename_i t B;rw[B]at k;obtain⟨p,F⟩:=EF k;split at e;{rename_i l d C h;split at e;{rename_i m;cases e;refine⟨_,CG ?_,λD _=>adr r p (AG i v C) (AG i A h) m.1 m.2⟩;rw[ByteArray.size_extract];omega};cases e};cases e};cases e};cases g
theorem aoh(K:Inv γ h0 io w0 s f w){T x lo U y a b k c}(du:AA P N (.slice T x lo U O) (.AS k y a b)=I)(i:jw s (.AS k y a b)=Z c):
  SD P γ s f w N J c ⟨dst,.slice T x lo U O,ty,pos,aft,gd⟩:=by simp only[AA,aw]at du;obtain⟨⟨⟨hx,VL⟩,L⟩,q⟩:=du;have hr:=cU K hx;have q:=eq_of_beq q;unfold Mm at q;split at q;{rename_i g hu;simp[jw]at i;split at i;{rename_i m fl es hb;rw[hb]at hr;split at i;{rename_i l d Ft D;split at i;{rename_i hc;obtain⟨rfl,c1,c2⟩:=hc;cases i;obtain⟨F,⟨A,n,S,q1,q2,q3,q4,q5,Y,B,X⟩,jt⟩:=hr;(have p:((es.take d).drop l).length=d - l:=by simp;omega);have r:∀e∈(es.take d).drop l,e∈es:=λe i=>ed (List.mem_of_mem_drop i);(have R:P0 (fr f N).eval U n d:=by rw[q2];exact AG K L D);have nK:=λt=>adq (w:=t) (dst:=dst) (ty:=ty) (pos:=pos) (aft:=aft) (gd:=gd) hu (λw=>run_sizeOf q w) q1 (AG K VL Ft) R c1 (by omega);refine⟨_,?_,λt _=>nK t⟩;by_cases h0:d - l=0;{simp only[CR];exact⟨[],⟨_,d - l,S - l,rfl,p.symm,by omega,by omega,λQ e i=>q5 Q e (r e i),Y,λe i=>B e (r e i),.inl ⟨h0,rfl⟩⟩,λ_ h=>by simp at h⟩};rcases X with X|⟨hp,b,o,xs,G,p1,p2,p3,p4⟩;{omega};(have vE:¬S=l:=by omega);rw[<- cp d es]at p3;obtain⟨v1,v2,F1,F2,rfl,rfl,m0,_⟩:=iQ.j6 _ p3;rw[<- cp l (es.take d)]at m0;obtain⟨W,V,G1,G2,rfl,rfl,m1,m2⟩:=iQ.j6 _ m0;have MU:=iQ.length _ m1 (λe i=>B e (ed (ed i)));(have H:((es.take d).take l).length=l:=by simp;omega);rw[H]at MU;rw[if_neg vE,p1];simp;refine⟨(b,o+l * m+(d - l) * m)::G2,⟨Z ⟨b,o+l * m,O⟩,d - l,S - l,by simp[Addr.add],p.symm,by omega,by omega,λQ e i=>q5 Q e (r e i),Y,λe i=>B e (r e i),.inr ⟨by omega,b,o+l * m,V,G2,rfl,rfl,m2,?_⟩⟩,?_⟩;{intro j v hj;have e1:((W++V)++v2)[W.length+j]?=Z v:=by{rw[aZ,jQ (by omega),Nat.add_sub_cancel_left,eH (bn.1 hj).1];exact hj};have e2:=p4 _ _ e1;rw[MU,<- ij]at e2;exact e2};intro be C;rcases aU.1 C with rfl|C;{have h9:=jt (b,o+n * m) (by rw[p2];simp);refine aS ?_ h9;(have h8:l * m+(d - l) * m=d * m:=by rw[<- mj];congr 1;omega);have h7:d * m<=n * m:=eK m (by omega);omega};exact jt be (by rw[p2];simp[C])};cases i};cases i};cases i};cases q
theorem aod(k:Inv γ h0 io w0 s f w){T x y i o c}(g:lN N x y=I)(a:aho P T i o=I)(b:jw s (.fld o y)=Z c):
  SD P γ s f w N J c ⟨dst,.field T x i,ty,pos,aft,gd⟩:=by have e:=cU k g;simp[jw]at b;split at b;{rename_i A m;rw[m]at e;obtain⟨vs,q,p⟩:=e;rw[ek]at b;obtain⟨v,h,l⟩:=p.at_ b;unfold aho at a;split at a;{rename_i fs j;split at a;{rename_i t d;simp at a;obtain⟨rfl,n⟩:=a;refine⟨v,l,λr _=>?_⟩;simp[execOp,q,Instr.field,run_underlying j,d,part,tm n,asAgg,h]};cases a};cases a};cases b
theorem JR{γ w}:∀{g vs d},gY γ w g vs->Ha g=Z d->vs=d.map λb=>Value.pointer (Z ⟨γ.β b,0,O⟩)
 |[],vs,d,h,a=>by simp[gY]at h;simp[Ha]at a;subst h a;rfl
 |c::g,vs,d,h,a=>by obtain⟨v,n,rfl,i,k⟩:=h;unfold Ha at a;split at a;{rename_i e;cases e};{rename_i b m e;cases e;obtain⟨l,j,rfl⟩:=aC.1 a;simp[CR]at i;rw[i,JR k j];rfl};cases a
theorem aof(g:Inv γ h0 io w0 s f w){F:FuncId}{fs cs ys c}(h:fs=#[])(d:GY N cs.toList ys=I)(a:jw s (.mkf F ys)=Z c):
  SD P γ s f w N J c ⟨dst,.makeFunc (.func F) fs cs,ty,pos,aft,gd⟩:=by subst h;have e:=AD g _ _ d;simp only[jw]at a;obtain⟨l,k,rfl⟩:=aC.1 a;have j:=JR e k;refine⟨_,rfl,λm _=>?_⟩;(have i:cs.map (fr f N).eval=(l.map λb=>Value.pointer (Z ⟨γ.β b,0,O⟩)).toArray:=by rw[<- j];apply Array.ext';rw[Array.toList_map]);simp[execOp,Instr.makeFunc,i]
theorem qm(q:Inv γ h0 io w0 s f w){op uR c}(l:AA P N op uR=I)(h:jw s uR=Z c):
  SD P γ s f w N uR.Rb c ⟨dst,op,ty,pos,aft,gd⟩:=by have K:=l;unfold AA at l;split at l;{cases h;exact⟨_,cU q l,λC _=>eu rfl⟩};{cases h;exact⟨_,cU q l,λC _=>fp rfl⟩};{simp at l;obtain⟨⟨H,D⟩,R⟩:=l;simp only[jw]at h;split at h;{rename_i b B;have j:=cU q H;rw[B]at j;have G:=tK j;cases h;cases b;{exact⟨_,cU q R,λC _=>PS G rfl⟩};exact⟨_,cU q D,λC _=>PT G rfl⟩};cases h};{exact aeT q K h};{obtain⟨v,H,D⟩:=aiv (dst:=dst) (ty:=ty) (pos:=pos) (aft:=aft) (gd:=gd) q K h;exact⟨v,H,λC hs=>D C (hs rfl)⟩};{exact arx q K h};{exact ary q K h};{exact aok q K h};{exact aoe q K h};{exact aog q K h};{simp only[aw]at l;have e:=of_decide_eq_true l.1.1;subst e;exact aob q K h};{simp only[aw]at l;have e:=of_decide_eq_true l.1.1.1;subst e;exact aoa q K h};{simp only[jw]at h;split at h;{rename_i b B;have j:=cU q l;rw[B]at j;have G:=tK j;cases h;exact⟨_,jI,λC _=>agQ G⟩};cases h};{simp only[jw]at h;split at h;{rename_i k a B;have j:=cU q l;rw[B]at j;obtain⟨G,_⟩:=lZ j;cases h;exact⟨_,jE (wrap_wrap _ _),λC _=>by simp[execOp,G,Op.unary,Op.intArith]⟩};cases h};{simp at l;obtain⟨⟨H,D⟩,R⟩:=l;simp only[jw]at h;split at h;{rename_i k a B;have j:=cU q H;rw[B]at j;obtain⟨G,_⟩:=lZ j;cases h;refine⟨_,jE (wrap_wrap _ _),λC _=>?_⟩;unfold ad1 at D R;split at R;{rename_i k' oh;cases R;split at D;{rename_i k2 hk2;simp[execOp,convert,G,run_underlying oh,run_underlying hk2,Conv.intToInt]};cases D};cases R};cases h};{rename_i V y;split at l;{rename_i x T Q L MT;simp at l;obtain⟨H,D⟩:=l;obtain⟨U,args,X⟩:=V;simp only at Q L MT;subst Q;(have S:args=#[x]:=by rw[<- L]);(have et:X=#[T]:=by rw[<- MT]);subst S et;have j:=cU q H;unfold Rc at D;split at D;{rename_i d W;have wr:∀n:Nat,n<=maxLen->IntKind.i64.wrap (n:Int)=n:=λn hn=>iJ (by simp[maxLen]at hn;omega);simp only[jw]at h;split at h;{rename_i k fl es B;rw[B]at j;obtain⟨F,⟨A,m,cc,q1,q2,q3,q4,_⟩,jt⟩:=j;cases h;subst q2;exact⟨_,jE (wr _ (by omega)),λC _=>HK W q1⟩};{rename_i k fl B;rw[B]at j;simp only[CR]at j;cases h;exact⟨_,jE (wr 0 (by omega)),λC _=>HK W j.1⟩};{rename_i r B;rw[B]at j;simp only[CR]at j;split at h;{rename_i row hl;cases h;obtain⟨F,hR,_,wP⟩:=q.rw r row hl;obtain⟨A,n',c',q1,q2,q3,q4,_⟩:=hR;subst q2;exact⟨_,jE (wr _ (by omega)),λC _=>HK W (j.1.trans q1)⟩};cases h};cases h};cases D};cases l};{rename_i V y;split at l;{rename_i x T Q L MT;simp at l;obtain⟨H,D⟩:=l;obtain⟨U,args,X⟩:=V;simp only at Q L MT;subst Q;(have S:args=#[x]:=by rw[<- L]);(have et:X=#[T]:=by rw[<- MT]);subst S et;have j:=cU q H;unfold isStr at D;split at D;{rename_i W;simp only[jw]at h;split at h;{rename_i t B;rw[B]at j;obtain⟨G,hl⟩:=EF j;cases h;exact⟨_,jE (iJ (by simp[maxLen]at hl;omega)),λC _=>akv W G⟩};cases h};cases D};cases l};{rename_i V y y';split at l;{rename_i x x' Q L;simp at l;obtain⟨U,args,X⟩:=V;simp only at Q L;subst Q;(have S:args=#[x,x']:=by rw[<- L]);subst S;have j:=cU q l.1;have Y:=cU q l.2;simp only[jw]at h;split at h;{rename_i a b B mD;rw[B]at j;rw[mD]at Y;obtain⟨G,hw⟩:=lZ j;obtain⟨TG,hw'⟩:=lZ Y;cases h;exact⟨_,jE (by split<;>assumption),λC _=>by simp[execOp,resolve,invoke,builtin,Builtin.min_,Builtin.min2,G,TG]⟩};cases h};cases l};{rename_i V y y';split at l;{rename_i x x' Q L;simp at l;obtain⟨U,args,X⟩:=V;simp only at Q L;subst Q;(have S:args=#[x,x']:=by rw[<- L]);subst S;have j:=cU q l.1;have Y:=cU q l.2;simp only[jw]at h;split at h;{rename_i a b B mD;rw[B]at j;rw[mD]at Y;obtain⟨G,hw⟩:=lZ j;obtain⟨TG,hw'⟩:=lZ Y;cases h;exact⟨_,jE (by split<;>assumption),λC _=>by simp[execOp,resolve,invoke,builtin,Builtin.max_,Builtin.max2,G,TG]⟩};cases h};cases l};{simp at l;obtain⟨H,rfl⟩:=l;have j:=cU q H;simp only[jw]at h;split at h;{rename_i cs B;rw[B]at j;obtain⟨vs,D,R⟩:=j;rw[ek]at h;obtain⟨v,G,hc⟩:=R.at_ h;exact⟨v,hc,λC _=>X8 D (by simpa using G)⟩};cases h};{exact aoi q K h};{exact aoj q K h};{exact aoh q K h};{have j:=cU q l;simp only[jw]at h;split at h;{rename_i b o B;cases h;rw[B]at j;refine⟨_,j,λC _=>?_⟩;simp only[CR]at j;simp[execOp,j]};{rename_i cs B;cases h;rw[B]at j;refine⟨_,j,λC _=>?_⟩;obtain⟨b,o,vs,F,j,_⟩:=j;simp[execOp,j]};{rename_i r k i o B;cases h;rw[B]at j;refine⟨_,j,λC _=>?_⟩;obtain⟨g,p,n,c,_,j⟩:=j;simp[execOp,j]};cases h};{obtain⟨v,H,D⟩:=aoc (dst:=dst) (ty:=ty) (pos:=pos) (aft:=aft) (gd:=gd) q K h;exact⟨v,H,λC hs=>D C (hs rfl)⟩};{simp at l;exact aod q l.1 l.2 h};{simp only[aw,beq_iff_eq]at l;obtain⟨⟨rfl,h0⟩,H⟩:=l;exact aof q (Array.isEmpty_iff.1 h0) H h};cases l
end
end
section
open Go.RowKit
inductive FOk:Option Nat->Fm->Fm->Prop where
 |skip {f:Fm}:FOk none f f
 |put {d:Nat} {f:Fm} {v:Value}:FOk (some d) f (ID f d v)
structure Tr (d:Option Nat) (X:List Nat) (γ:Gh) (w:World) (γ':Gh) (w':World) (f f':Fm):Prop where
 YI:Bg γ (λo=>∃i∈X,o=.box i\/o=.row i) w w'
 β:∀b,d≠some b->γ'.β b=γ.β b
 h:∀g,γ.h g<=γ'.h g
 fr:FOk d f f'
def Bg.refl γ a w:Bg γ a w w:=⟨rfl,rfl,rfl,aH _,λ_ _ _=>rfl,λ_ _ _=>rfl,λ_ h=>h⟩
section
variable {γ:Gh} {h0:Nat->Nat} {io:M Nat} {w0:World} {s:St} {f:Fm} {w:World}
theorem lP(h:Inv γ h0 io w0 s f w){e:World}(b:J_ w.heap.size w e)(a:Own->Prop):Bg γ a w e where
 os:=b.os
 tape:=b.tape
 output:=b.output
 size:=b.size
 block g c _:=b.block g c
 cell g j i:=by rcases dZ g w.heap.size with d|d;{exact World.cell?_of_block (w:=w) (b.block g d)};have:=h.fK g d;omega
 jl g c:=⟨bZ c.1 b.size,λj=>by rw[World.frozen?_of_block (w:=w) (b.block g c.1)];exact c.2 j⟩
theorem Inv.SM(c:Inv γ h0 io w0 s f w){a}(e:J_ w.heap.size w a):Inv γ h0 io w0 s f a:=
 c.YI (lP c e (λ_=>False)) (λh=>h) (λ_ h=>h.elim) (λ_ h=>h.elim)
theorem Inv.uF(a:Inv γ h0 io w0 s f w){g}(c:w.heap.size<=g):γ.ω g=.free:=by rcases jo (γ.ω g=.free) with h|h;{exact h};have:=(a.own g h).1;omega
theorem Inv.Kd(a:Inv γ h0 io w0 s f w){b g T vs cs}(hB:mP w g T vs)(D:γ.ω g=.free\/γ.ω g=.fI)(K:w0.heap.size<=g\/g∈io)(H:γ.h g=0)(L:gY γ w cs vs):
  ∃i,Inv i h0 io w0 (s.j9 b (C.jU b cs)) f w/\i.β b=g/\(∀x,x≠b->i.β x=γ.β x)/\i.h=γ.h/\i.sl=γ.sl/\∀y,y≠g->i.ω y=γ.ω y:=by
 refine⟨{γ with β:=λx=>if x=b then g else γ.β x,ω:=λx=>if x=g then .box b else γ.ω x },?_,by simp,λx G=>by simp[G],rfl,rfl,λy j=>by simp[j]⟩;have mv:∀(c) {v},CR γ w c v->CR {γ with β:=λx=>if x=b then g else γ.β x,ω:=λx=>if x=g then .box b else γ.ω x } w (C.kill b c) v:=λc v h=>
  by refine CR.move (γ:=γ) b ?_ ?_ ?_ ?_ c h<;>first|exact aH _|rfl|simp_all
 have m:∀(c) {v},gY γ w c v->gY {γ with β:=λx=>if x=b then g else γ.β x,ω:=λx=>if x=g then .box b else γ.ω x } w (C.jU b c) v:=λc v h=>
  by refine gY.move (γ:=γ) b ?_ ?_ ?_ ?_ c h<;>first|exact aH _|rfl|simp_all
 exact {
  sl:=λd c l=>by simp[St.j9,St.gB,St.kill,yU]at l;obtain⟨p,o,rfl⟩:=l;exact mv p (a.sl d p o)
  bx:=λd c l=>by simp[St.j9,St.gB,St.kill,look,fL,yT]at l;by_cases hd:b=d;{subst hd;simp at l;subst l;exact⟨T,vs,by simpa using hB,m cs L,by simp⟩};simp[if_neg hd]at l;obtain⟨p,o,rfl⟩:=l;obtain⟨P,N,B,q,A⟩:=a.bx d p o;(have t:γ.β d≠g:=λe=>by rcases D with h|h<;>rw[e,h]at A<;>cases A);exact⟨P,N,by simpa [ov hd] using B,m p q,by simp[ov hd,t,A]⟩
  rw:=λr x l=>by obtain⟨F,o,B,q⟩:=a.rw r x l;refine⟨F,o,B,λy j=>?_⟩;(have t:y≠g:=λe=>by have:=q y j;rcases D with h|h<;>rw[e,h]at this<;>cases this);simp[t,q y j]
  own:=λy j=>by by_cases n:y=g;{subst n;exact⟨hB.lt,K⟩};simp[if_neg n]at j;exact a.own y j
  nJ:=λy x j=>by by_cases n:y=g;{subst n;exact H};simp[if_neg n]at j;exact a.nJ y x j
  fK:=a.fK,os:=a.os,tape:=a.tape,output:=a.output,size:=a.size,frame:=a.frame,cell:=a.cell,mono:=a.mono,hold:=a.hold,jl:=a.jl }
theorem Inv.yi(a:Inv γ h0 io w0 s f w){r x v F}(P:sF γ.h w x v F)(L:F.Nodup)(G:∀g∈F,(γ.ω g=.free\/γ.ω g=.fI\/γ.ω g=.row r)/\g<w.heap.size/\(w0.heap.size<=g\/g∈io)):
  ∃i,Inv i h0 io w0 (s.newRow r x) f w/\i.sl r=v/\i.β=γ.β/\i.h=γ.h/\(∀g,g∉F->i.ω g=γ.ω g)/\∀q,q≠r->i.sl q=γ.sl q:=by
 refine⟨{γ with sl:=λq=>if q=r then v else γ.sl q,ω:=λy=>if y∈F then .row r else γ.ω y },?_,by simp,rfl,rfl,λg l=>by simp[l],λq N=>by simp[N]⟩;have mv:∀(c) {m},CR γ w c m->CR {γ with sl:=λq=>if q=r then v else γ.sl q,ω:=λy=>if y∈F then .row r else γ.ω y } w (C.kill r c) m:=λc m h=>
  by refine CR.move (γ:=γ) r ?_ ?_ ?_ ?_ c h<;>intros<;>first|exact aH _|rfl|simp_all
 have B:∀(c) {m},gY γ w c m->gY {γ with sl:=λq=>if q=r then v else γ.sl q,ω:=λy=>if y∈F then .row r else γ.ω y } w (C.jU r c) m:=λc m h=>
  by refine gY.move (γ:=γ) r ?_ ?_ ?_ ?_ c h<;>intros<;>first|exact aH _|rfl|simp_all
 exact {
  sl:=λd c j=>by simp only[St.newRow,St.setRow,St.kill,yU,aC]at j;obtain⟨A,t,rfl⟩:=j;exact mv A (a.sl d A t)
  bx:=λd c j=>by simp only[St.newRow,St.setRow,St.kill,yT,aC]at j;obtain⟨A,t,rfl⟩:=j;obtain⟨R,Q,H,o,K⟩:=a.bx d A t;refine⟨R,Q,H,B A o,?_⟩;have D:γ.β d∉F:=λe=>by{rcases (G _ e).1 with h|h|h<;>rw[K]at h<;>cases h};simp[D,K]
  rw:=λq y j=>by simp only[St.newRow,St.setRow,St.kill,look,fL]at j;by_cases hd:r=q;{subst hd;simp at j;subst j;exact⟨F,by simpa using P,L,λg l=>by simp[l]⟩};simp only[if_neg hd]at j;obtain⟨S,t,H,o⟩:=a.rw q y j;refine⟨S,by simpa [ov hd] using t,H,λg l=>?_⟩;have D:g∉F:=λe=>by{rcases (G _ e).1 with h|h|h;{rw[o g l]at h;cases h};{rw[o g l]at h;cases h};rw[o g l]at h;cases h;exact hd rfl};simp[D,o g l]
  own:=λy n=>by by_cases p:y∈F;{exact (G y p).2};simp only[if_neg p]at n;exact a.own y n
  nJ:=λy x n=>by by_cases p:y∈F;{simp only[if_pos p]at n;cases n};simp only[if_neg p]at n;exact a.nJ y x n
  fK:=a.fK,os:=a.os,tape:=a.tape,output:=a.output,size:=a.size,frame:=a.frame,cell:=a.cell,mono:=a.mono,hold:=a.hold,jl:=a.jl }
theorem Inv.setRow(a:Inv γ h0 io w0 s f w){r x F}(H:sF γ.h w x (γ.sl r) F)(G:F.Nodup)(C:∀g∈F,(γ.ω g=.free\/γ.ω g=.fI\/γ.ω g=.row r)/\g<w.heap.size/\(w0.heap.size<=g\/g∈io)):
  ∃i,Inv i h0 io w0 (s.setRow r x) f w/\i.sl=γ.sl/\i.β=γ.β/\i.h=γ.h/\∀g,i.ω g=γ.ω g\/i.ω g=.row r:=by
 refine⟨{γ with ω:=λy=>if y∈F then .row r else γ.ω y },?_,rfl,rfl,rfl,λg=>by dsimp only;split<;>simp⟩;have mv:∀(c) {l},CR γ w c l->CR {γ with ω:=λy=>if y∈F then .row r else γ.ω y } w c l:=λc l h=>
  by refine CR.mono (γ:=γ) ?_ ?_ ?_ ?_ c h<;>intros<;>first|exact aH _|rfl
 have o:∀(c) {l},gY γ w c l->gY {γ with ω:=λy=>if y∈F then .row r else γ.ω y } w c l:=λc l h=>
  by refine gY.mono (γ:=γ) ?_ ?_ ?_ ?_ c h<;>intros<;>first|exact aH _|rfl
 exact {
  sl:=λd c j=>mv c (a.sl d c j)
  bx:=λd c j=>by obtain⟨N,L,B,A,D⟩:=a.bx d c j;refine⟨N,L,B,o c A,?_⟩;have p:γ.β d∉F:=λe=>by{rcases (C _ e).1 with h|h|h<;>rw[D]at h<;>cases h};simp[p,D]
  rw:=λq y j=>by simp[St.setRow,look,fL]at j;by_cases hd:r=q;{subst hd;simp at j;subst j;exact⟨F,H,G,λg t=>by simp[t]⟩};simp[if_neg hd]at j;obtain⟨P,K,B,A⟩:=a.rw q y j;refine⟨P,K,B,λg t=>?_⟩;have p:g∉F:=λe=>by{grind};simp[p,A g t]
  own:=λy m=>by by_cases n:y∈F;{exact (C y n).2};simp[if_neg n]at m;exact a.own y m
  nJ:=λy x m=>by by_cases n:y∈F;{simp only[if_pos n]at m;cases m};simp[if_neg n]at m;exact a.nJ y x m
  fK:=a.fK,os:=a.os,tape:=a.tape,output:=a.output,size:=a.size,frame:=a.frame,cell:=a.cell,mono:=a.mono,hold:=a.hold,jl:=a.jl }
theorem Inv.gB(e:Inv γ h0 io w0 s f w){b T vs cs}(hB:mP w (γ.β b) T vs)(g:γ.ω (γ.β b)=.box b)(h:gY γ w cs vs):Inv γ h0 io w0 (s.gB b cs) f w:=
 {e with
  bx:=λd c a=>by
   simp[St.gB,look,fL]at a;by_cases hd:b=d
   .subst hd;simp at a;subst a;exact⟨T,vs,hB,h,g⟩
   .simp[if_neg hd]at a;exact e.bx d c a }
theorem Inv.dL(a:Inv γ h0 io w0 s f w)r:Inv γ h0 io w0 (s.dL r) f w:=
 a.sub (λ_ _ h=>h) (λ_ _ h=>h) (λd c h=>by
  simp only[St.dL,fL]at h
  simp_all)
theorem Inv.take(D:Inv γ h0 io w0 s f w){r x}(hl:look s.rw r=Z x):
  ∃m G,Inv m h0 io w0 (s.dL r) f w/\m.β=γ.β/\m.sl=γ.sl/\(∀g,γ.h g<=m.h g)/\Rp w (.list x.k x.fl x.es) (γ.sl r) G/\
   ((x.deep && !x.fz)=J->dW m.h G)/\((x.deep && !x.fz)=I->(G.map fS).Nodup/\∀p∈G,m.ω p.1=.fI/\m.h p.1=0/\vj w p.1)/\
   (∀p∈G,γ.ω p.1=.row r\/x.deep=J)/\(∀g,γ.ω g≠.row r->m.ω g=γ.ω g/\m.h g=γ.h g)/\∀g,m.ω g=γ.ω g\/m.ω g=.fI\/m.ω g=.free:=by
 obtain⟨F,hR,jy,C⟩:=D.rw r x hl;obtain⟨A,n,c,V,U,T,S,R,Q,P,q8⟩:=hR;have K:=D.dL r;(have GU:∀g,γ.ω g=.row r->(∀b cs,look (s.dL r).bx b=Z cs->γ.ω g≠.box b)/\∀q y,look (s.dL r).rw q=Z y->γ.ω g≠.row q:=by{intro g L;refine⟨λb cs _=>by rw[L];simp,λq y Y=>?_⟩;rw[L];simp only[St.dL,fL]at Y;split at Y;{cases Y};rename_i iH;intro e;cases e;exact iH rfl});rcases q8 with ⟨rfl,rfl,rfl⟩|⟨g,o,xs,G,rfl,a2,a3,a4,a5,a6,a7,a8,a9,xw⟩;{refine⟨γ,[],K,rfl,rfl,λ_=>aH _,?_,λ_ _ h=>by simp at h,λ_=>by simp,λ_ h=>by simp at h,λ_ _=>⟨rfl,rfl⟩,λ_=>.inl rfl⟩;simp only[Rp];exact⟨O,n,0,V,U,T,S,P,R,Q,.inl ⟨by omega,trivial⟩⟩}
 .by_cases hn:n=0;{refine⟨γ,[],K,rfl,rfl,λ_=>aH _,?_,λ_ _ h=>by simp at h,λ_=>by simp,λ_ h=>by simp at h,λ_ _=>⟨rfl,rfl⟩,λ_=>.inl rfl⟩;simp only[Rp];exact⟨_,n,c,V,U,T,S,P,R,Q,.inl ⟨hn,trivial⟩⟩}
  ·(have tF:Rp w (.list x.k x.fl x.es) (γ.sl r) ((g,o+n * x.k)::G):=by{simp only[Rp];exact⟨_,n,c,V,U,T,S,P,R,Q,.inr ⟨by omega,g,o,xs,G,rfl,rfl,a4,a5⟩⟩});(have N:γ.ω g=.row r:=by{cases hd:x.deep with|true=>{exact C g (by rw[(a9 hd).1];simp)}|false=>exact C g (by rw[(xw hd).1];simp)});by_cases t:(x.deep && !x.fz)=I
   .simp only[aw,dm]at t;obtain⟨hF,hz⟩:=a9 t.1;have X:=K.settle (h':=γ.h) (ω':=λy=>if γ.ω y=.row r then .fI else γ.ω y) (λ_=>aH _) (λg L=>absurd rfl L)
     (λy=>by
      by_cases i:γ.ω y=.row r
      .exact .inr ⟨.inr (by simp[i]),by rw[i];simp,GU y i⟩
      .exact .inl (by simp[i]))
     (λy b i=>by
      by_cases B:γ.ω y=.row r
      .simp[B]at i
      .simp only[if_neg B]at i;exact D.nJ y b i)
    refine⟨_,(g,o+n * x.k)::G,X,rfl,rfl,λ_=>aH _,tF,λh=>by simp[t.1,t.2]at h,λ_=>⟨by rw[bz,<- hF];exact jy,λp j=>?_⟩,λp j=>.inl ?_,λy i=>by simp[i],λy=>by dsimp only;split<;>simp⟩;{rcases aU.1 j with rfl|j;{exact⟨by simp[N],a7 t.2,a3⟩};have hm:γ.ω p.1=.row r:=C _ (by rw[hF];simp;exact .inr ⟨p.2,j⟩);exact⟨by simp[hm],hz p j⟩};rcases aU.1 j with rfl|j;{exact N};exact C _ (by rw[hF];simp;exact .inr ⟨p.2,j⟩)
   .have H:∀p∈G,x.deep=I->γ.ω p.1=.row r:=λp j hd=>C _ (by rw[(a9 hd).1];simp;exact .inr ⟨p.2,j⟩);have fK:∃h':Nat->Nat,(∀y,γ.h y<=h' y)/\dW h' ((g,o+n * x.k)::G)/\∀y,γ.ω y≠.row r->h' y=γ.h y:=by{refine⟨λy=>if γ.ω y=.row r then γ.h y+((((g,o+n * x.k)::G).map sx).foldl max 0) else γ.h y,λy=>by dsimp only;split<;>omega,?_,λy i=>by simp[i]⟩;have mx:∀(l:M Nat) (a b),(b=a\/b∈l)->b<=l.foldl max a:=by{intro l;induction l with|nil=>{intro a b j;simp at j;simp[j]}|cons z l ih=>intro a b j;simp;have h1:=ih (max a z) (max a z) (.inl rfl);rcases j with rfl|j;{omega};rcases aU.1 j with rfl|j;{omega};exact ih _ _ (.inr j)};intro p j;have hle:=mx (((g,o+n * x.k)::G).map sx) 0 p.2 (.inr (dH j));by_cases i:γ.ω p.1=.row r;{simp only[i,if_true];omega};simp only[if_neg i];rcases aU.1 j with rfl|j;{exact absurd N i};cases hd:x.deep with|true=>{exact absurd (H p j hd) i}|false=>exact (xw hd).2 p j}
    obtain⟨h',m1,m2,W⟩:=fK;have X:=K.settle (h':=h') (ω':=λy=>if γ.ω y=.row r then .free else γ.ω y) m1
     (λy i=>by
      have hr:γ.ω y=.row r:=by
       rcases jo (γ.ω y=.row r) with h|h
       .exact h
       .exact absurd (W y h) i
      have ho:=D.own y (by rw[hr];simp);exact⟨ho.1,ho.2,GU y hr⟩)
     (λy=>by
      by_cases i:γ.ω y=.row r
      .exact .inr ⟨.inl (by simp[i]),by rw[i];simp,GU y i⟩
      .exact .inl (by simp[i]))
     (λy b i=>by
      by_cases B:γ.ω y=.row r
      .simp[B]at i
      .simp only[if_neg B]at i;rw[W y B];exact D.nJ y b i)
    refine⟨_,_,X,rfl,rfl,m1,tF,λ_=>m2,λh=>absurd h t,λp j=>?_,λy i=>by simp[i,W y i],λy=>by dsimp only;split<;>simp⟩;cases hd:x.deep with|false=>{exact .inr rfl}|true=>rcases aU.1 j with rfl|j;{exact .inl N};exact .inl (H p j hd)
end
def J_.next'{a w c}(h:J_ a.heap.size a w)(e:J_ w.heap.size w c):J_ a.heap.size a c:=Y0 h e h.size
section
variable {P:Program} {w:World}
def Qh(w:World)(e:TypeId)(k n m:Nat)(h news:M Value)(v d:Value)(c:World):Prop:=
 (m=0/\d=v/\c=w)\/
 (∃g a T b,v=.slice (Z ⟨g,0,O⟩) n a/\mP w g T b/\d=.slice (Z ⟨g,0,O⟩) (n+m) a/\n+m<=a/\a<=maxLen/\b.length=a * k/\b.take (n * k)=h/\c=ji w g (.cells (eE b (n * k) news).toArray T (0,0)))\/
 (∃a f,d=.slice (Z ⟨w.heap.size,0,O⟩) (n+m) a/\n+m<=a/\a<=maxLen/\c.heap.size=w.heap.size+1/\J_ w.heap.size w c/\mP c w.heap.size e f/\f.length=a * k/\f.take ((n+m) * k)=h++news)
theorem IL{e a k n m old xs news v}(b:a.size=k)(hlen:(xs++news).length=(n+m) * k)(d:n+m<=maxLen):
  Qh w e k n m xs news v (.slice (Z ⟨w.heap.size,0,O⟩) (n+m) (grownCap w (n+m) old e)) (w.drew.alloc (.cells (xs.toArray++news.toArray++Builtin.zeroCells a (grownCap w (n+m) old e - (n+m))) e)):=by have f:=grownCap_ge w (n+m) old e;have c:grownCap w (n+m) old e<=maxLen:=grownCap_le_maxLen w (n+m) old e d;refine .inr (.inr ⟨_,(xs++news)++(Builtin.zeroCells a (grownCap w (n+m) old e - (n+m))).toList,rfl,f,c,by rw[size_alloc];rfl,?_,?_,?_,?_⟩);{exact (Y1 w).drew.next' (IM w.drew _ _)};{have g:xs.toArray++news.toArray++Builtin.zeroCells a (grownCap w (n+m) old e - (n+m))=((xs++news)++(Builtin.zeroCells a (grownCap w (n+m) old e - (n+m))).toList).toArray:=by{simp_all};rw[g];exact mP.new w.drew e _};{rw[ay,hlen,jv,size_zeroCells,b,<- mj];congr 1;omega};rw[<- hlen];exact n9
theorem UJ{t ty e i a k by_}(p:P.underlying t=Z (.slice e))(s:P.info? e=Z i)(hz:i.zero=Z a)(S:i.size=k)(R:i.bytes=by_)(F:a.cells.size=k)(hk:0<k)
  {v n xs} (L:xs.length=n * k) (hv:(v=.slice O 0 0/\n=0)\/∃g d T f,v=.slice (Z ⟨g,0,O⟩) n d/\mP w g T f/\n<=d/\d<=maxLen/\f.length=d * k/\f.take (n * k)=xs)
  {u m news} (D:news.length=m * k) (N:(m=0/\∃A c,u=.slice A 0 c)\/∃b o c,u=.slice (Z ⟨b,o,O⟩) m c/\j5 w b o news) (h1:∀y∈news,one y=I) (x:n+m<=maxLen) (U:(n+m) * by_<=room) :
  ∃v' Y,(Builtin.append_ #[t,t] ty #[v,u]).run P w=.ok v' Y/\
   Qh w e k n m xs news v v' Y:=by subst S;subst R;(have aqZ:n+m<=9223372036854775807:=by simp only[maxLen]at x;omega);have H:(n+m) * i.bytes<=140737488355328:=U;(have l:(xs++news).length=(n+m) * i.size:=by rw[ay,L,D,mj]);by_cases hm:m=0;{subst hm;have hn:news=[]:=cx (by simpa using D);subst hn;refine⟨v,w,?_,.inl ⟨rfl,rfl,rfl⟩⟩;rcases hv with ⟨rfl,rfl⟩|⟨g,d,T,f,rfl,hB,W,G,X,V⟩;{rcases N with ⟨_,A,c,rfl⟩|⟨b,o,c,rfl,_⟩;{cases A<;>simp[Builtin.append_,run_underlying p,sizeOf,typeInfo,s,Builtin.lenOf,Builtin.firstCells,loadCells,loadCellsFrom]};simp[Builtin.append_,run_underlying p,sizeOf,typeInfo,s,Builtin.lenOf,Builtin.firstCells,loadCells,loadCellsFrom]};rcases N with ⟨_,A,c,rfl⟩|⟨b,o,c,rfl,_⟩;{cases A<;>simp[Builtin.append_,run_underlying p,sizeOf,typeInfo,s,Builtin.lenOf,Builtin.firstCells,loadCells,loadCellsFrom,W,storeCells]};simp[Builtin.append_,run_underlying p,sizeOf,typeInfo,s,Builtin.lenOf,Builtin.firstCells,loadCells,loadCellsFrom,W,storeCells]};rcases N with ⟨h,_⟩|⟨b,o,c,rfl,jj⟩;{omega};have B:∀j y,news[j]?=Z y->w.cell? ((⟨b,o,O⟩:Addr).add j)=Z y:=by{intro j y C;rw[rJ];exact jj j y C};rcases hv with ⟨rfl,rfl⟩|⟨g,d,T,f,rfl,hB,W,G,X,V⟩;{have K:xs=[]:=cx (by simpa using L);subst K;have Q:=run_append_nil (P:=P) w t ty e i a p s hz ⟨b,o,O⟩ m c news D B (by omega) (by omega) (by have hb:=H;simp at hb;omega);have hg:=IL (w:=w) (e:=e) (old:=0) (v:=.slice O 0 0) F l x;simp at hg ⊢;exact⟨_,_,Q,hg⟩};by_cases q:n+m<=d;{(have BO:n * i.size+news.length<=f.length:=by rw[D,X,<- mj];exact eK _ q);have hf:=run_firstCells_some (P:=P) w i.size m ⟨b,o,O⟩ m c news D B;have nU:=nC (P:=P) (o:=n * i.size) news 0 w f hB (by simpa using BO) h1;simp at nU;refine⟨_,_,?_,.inr (.inl ⟨g,d,T,f,rfl,hB,rfl,q,G,X,V,rfl⟩)⟩;simp[Builtin.append_,run_underlying p,sizeOf,typeInfo,s,Builtin.lenOf,q,hf,Addr.add_lit,nU]};have r:∀j y,xs[j]?=Z y->w.cell? ((⟨g,0,O⟩:Addr).add j)=Z y:=by{intro j y C;rw[rJ,bN,hB.cell];rw[<- V,fQ]at C;split at C;{exact C};cases C};have Q:=run_append_grow (P:=P) w t ty e i a p s hz ⟨g,0,O⟩ n d xs L r ⟨b,o,O⟩ m c news D B (by omega) (by omega) (growslice_fits (by omega) H);exact⟨_,_,Q,IL F l x⟩
end
end
section
open Go.RowKit
def HP(a:Gh)(w:World)(g:Nat):Prop:=a.ω g=.fI/\a.h g=0/\vj w g
section
variable {h0:Nat->Nat} {io:M Nat} {w0:World} {f:Fm} {w:World}
theorem vv:∀{i s j g l},HQ s i=Z (g,l,j)->i.all C.cell=I/\g.length=i.length
 |[],s,j,g,l,h=>by simp[HQ]at h;simp[<- h.1]
 |c::i,s,j,g,l,h=>by unfold HQ at h;cases c with|d x=>{simp only[aC]at h;obtain⟨⟨m,e,n⟩,b,a⟩:=h;simp at a;have:=vv b;simp[C.cell,this.1,<- a.1,this.2]}|nil k o=>{simp only[aC]at h;obtain⟨⟨m,e,n⟩,b,a⟩:=h;simp at a;have:=vv b;simp[C.cell,this.1,<- a.1,this.2]}|ref r=>{simp only at h;split at h;{simp only[aC]at h;obtain⟨⟨m,e,n⟩,b,a⟩:=h;simp at a;have:=vv b;simp[C.cell,this.1,<- a.1,this.2]};cases h}|_=>simp at h
structure Emb (γ:Gh) (w:World) (dp:Bool) (G:Fp) (γ':Gh):Prop where
 β:γ'.β=γ.β
 sl:γ'.sl=γ.sl
 h:∀g,γ.h g<=γ'.h g
 some_:∀be∈G,be.2<=γ'.h be.1\/HP γ' w be.1
 deep:dp=true->(G.map fS).Nodup/\∀be∈G,HP γ' w be.1/\γ.ω be.1≠.fI
 fI:∀g,γ.ω g=.fI->γ'.ω g=.fI/\γ'.h g=γ.h g
 own:∀g,γ'.ω g=γ.ω g\/γ'.ω g=.fI\/γ'.ω g=.free
theorem zW:∀(cs) {γ s D vs K L},Inv γ h0 io w0 s f w->gY γ w cs vs->HQ s cs=Z (K,L,D)->
  ∃γ' G,Inv γ' h0 io w0 D f w/\gK w K vs G/\Emb γ w L G γ'
 |[],γ,s,D,vs,K,L,y,S,l=>by simp[HQ]at l;obtain⟨rfl,rfl,rfl⟩:=l;cases S;exact⟨γ,[],y,by simp[gK],⟨rfl,rfl,λ_=>aH _,λ_ h=>by simp at h,λ_=>by simp,λ_ h=>⟨h,rfl⟩,λ_=>.inl rfl⟩⟩
 |c::cs,γ,s,D,vs,K,L,y,S,l=>by obtain⟨v,T,rfl,H,X⟩:=S;unfold HQ at l;cases c with|d x=>{simp only[aC]at l;obtain⟨⟨uL,C,s1⟩,B,A⟩:=l;cases A;obtain⟨γ',G,t,p,m⟩:=zW cs y X B;obtain⟨F,hr,hs⟩:=H;refine⟨γ',F++G,t,by simp;exact⟨v,T,F,G,rfl,rfl,hr,p⟩,⟨m.β,m.sl,m.h,λj i=>?_,λhd=>?_,m.fI,m.own⟩⟩;{rcases aX.1 i with i|i;{exact .inl (aS (hs j i) (m.h _))};exact m.some_ j i};simp at hd;have hF:F=[]:=by{(have:gK w [x] [v] F:=by simp only[gK];exact⟨v,[],F,[],rfl,by simp,hr,rfl,rfl⟩);exact this.plain (by simp[hd.1])};subst hF;exact m.deep hd.2}|nil k fl=>{simp only[aC]at l;obtain⟨⟨uL,C,s1⟩,B,A⟩:=l;cases A;obtain⟨γ',G,t,p,m⟩:=zW cs y X B;obtain⟨rfl,hk⟩:=H;refine⟨γ',G,t,?_,m⟩;simp;refine⟨_,T,[],G,rfl,rfl,?_,p⟩;simp only[Rp];exact⟨O,0,0,rfl,rfl,aH _,by simp,λ_=>kR,hk,λ_ h=>by simp at h,.inl ⟨rfl,trivial⟩⟩}|ref r=>{simp only at l;split at l;{rename_i x hx;simp only[aC]at l;obtain⟨⟨uL,C,s1⟩,B,A⟩:=l;cases A;obtain⟨oY,Y,t,b1,o,m1,p,Q,d1,o1,k1,w1⟩:=y.take hx;obtain⟨n7,G2,i2,r2,n⟩:=zW cs t (X.mono (γ':=oY) m1 (λ_ _ _=>rfl) b1 o cs) B;simp[CR]at H;have up:∀j∈Y,(x.deep && !x.fz)=I->HP n7 w j.1:=λj i hd=>by{obtain⟨_,hl⟩:=d1 hd;obtain⟨R,q,l3⟩:=hl j i;obtain⟨P,N⟩:=n.fI _ R;exact⟨P,N.trans q,l3⟩};refine⟨n7,Y++G2,i2,by simp;exact⟨v,T,Y,G2,rfl,rfl,by rw[H.1];exact p,r2⟩,⟨n.β.trans b1,n.sl.trans o,λg=>aS (m1 g) (n.h g),λj i=>?_,λhd=>?_,λg hg=>?_,λg=>?_⟩⟩;{rcases aX.1 i with i|i;{cases hd:(x.deep && !x.fz) with|true=>{exact .inr (up j i hd)}|false=>exact .inl (aS (Q hd j i) (n.h _))};exact n.some_ j i};{rw[aw]at hd;obtain⟨hd1,hd2⟩:=hd;obtain⟨n1,R⟩:=d1 hd1;obtain⟨n2,q⟩:=n.deep hd2;(have Fk:x.deep=I:=by simp at hd1;exact hd1.1);refine⟨?_,λj i=>?_⟩;{rw[cE,cD];refine⟨n1,n2,?_⟩;intro a ha b i e;subst e;obtain⟨W,BK,rfl⟩:=dv.1 ha;obtain⟨V,iN,U⟩:=dv.1 i;exact (q V iN).2 (by rw[U];exact (R W BK).1)};rcases aX.1 i with i|i;{refine⟨up j i hd1,?_⟩;rcases o1 j i with h|h;{rw[h];simp};rw[Fk]at h;cases h};refine⟨(q j i).1,λh=>(q j i).2 ?_⟩;rw[(k1 j.1 (by rw[h];simp)).1];exact h};{have h3:=k1 g (by rw[hg];simp);obtain⟨P,N⟩:=n.fI g (by rw[h3.1];exact hg);exact⟨P,N.trans h3.2⟩};rcases n.own g with h|h;{rw[h];exact w1 g};exact .inr h};cases l}|_=>simp at l
theorem Inv.afr{γ s}(o:Inv γ h0 io w0 s f w)G(A:∀m∈G,m.2<=γ.h m.1\/HP γ w m.1):
  ∃e,Inv e h0 io w0 s f w/\e.β=γ.β/\e.sl=γ.sl/\(∀g,γ.h g<=e.h g)/\dW e.h G/\(∀g,γ.ω g=.free->e.ω g=.free)/\∀g,γ.ω g≠.fI->e.h g=γ.h g:=by
 have mx:∀(l:M Nat) (a b),(b=a\/b∈l)->b<=l.foldl max a:=by{intro l;induction l with|nil=>{intro a b i;simp at i;simp[i]}|cons c l q=>intro a b i;simp;have B:=q (max a c) (max a c) (.inl rfl);rcases i with rfl|i;{omega};rcases aU.1 i with rfl|i;{omega};exact q _ _ (.inr i)}
 have t:=o.settle (h':=λy=>if γ.ω y=.fI then γ.h y+(G.map sx).foldl max 0 else γ.h y) (ω':=λy=>if γ.ω y=.fI then .free else γ.ω y) (λy=>by split<;>omega)
  (λy n=>by
   have j:γ.ω y=.fI:=by
    simp_all
   have r:=o.own y (by rw[j];simp);exact⟨r.1,r.2,λ_ _ _=>by rw[j];simp,λ_ _ _=>by rw[j];simp⟩)
  (λy=>by
   by_cases j:γ.ω y=.fI
   .simp_all
   .exact .inl (by simp[j]))
  (λy b n=>by
   by_cases j:γ.ω y=.fI
   .simp[j]at n
   .simp[if_neg j]at n ⊢;exact o.nJ y b n)
 refine⟨_,t,rfl,rfl,λy=>by dsimp only;split<;>omega,λm i=>?_,λg p=>by simp[p],λg p=>by simp[p]⟩;have x:=mx (G.map sx) 0 m.2 (.inr (dH i));dsimp only;split;{omega};rename_i j;rcases A m i with h|h;{exact h};exact absurd h.1 j
theorem NH{k S}:∀(cs) {γ s r vs es t},Inv γ h0 io w0 s f w->gY γ w cs vs->EM k S s cs=Z (es,t,r)->
  ∃γ' G,Inv γ' h0 io w0 r f w/\iQ w es (vs.flatMap λv=>v.cells.toList) G/\Emb γ w t G γ'/\es.length=cs.length/\(∀e∈es,e.length=k)/\(S=I->flat es)/\∀v∈vs,v.cells.size=k
 |[],γ,s,r,vs,es,t,D,F,i=>by simp[EM]at i;obtain⟨rfl,rfl,rfl⟩:=i;cases F;exact⟨γ,[],D,by simp[iQ],⟨rfl,rfl,λ_=>aH _,λ_ h=>by simp at h,λ_=>by simp,λ_ h=>⟨h,rfl⟩,λ_=>.inl rfl⟩,rfl,λ_ h=>by simp at h,λ_=>kR,λ_ h=>by simp at h⟩
 |c::cs,γ,s,r,vs,es,t,D,F,i=>by obtain⟨v,fq,rfl,hv,Ik⟩:=F;unfold EM at i;split at i;{rename_i ds dp1 s1 R;split at i;{rename_i C;simp only[aC]at i;obtain⟨⟨mr,dp2,s2⟩,h2,h3⟩:=i;cases h3;obtain⟨C4,p⟩:=vv R;obtain⟨T,_,_⟩:=hv.cells C4;obtain⟨N,U,i1,Y,l⟩:=zW _ D T R;obtain⟨P,G2,i2,X,m,l2,k2,f2,z2⟩:=NH cs i1 (Ik.mono (γ':=N) l.h (λ_ _ _=>rfl) l.β l.sl cs) h2;(have lS:v.cells.size=k:=by rw[<- jv,T.length,<- p];exact C.1);have up:∀g,HP N w g->HP P w g:=λg q=>by{obtain⟨y,x⟩:=m.fI g q.1;exact⟨y,x.trans q.2.1,q.2.2⟩};refine⟨P,U++G2,i2,?_,⟨m.β.trans l.β,m.sl.trans l.sl,λg=>aS (l.h g) (m.h g),λo j=>?_,λhd=>?_,λg q=>?_,λg=>?_⟩,by simp[l2],?_,?_,?_⟩;{simp;exact⟨_,_,U,G2,rfl,rfl,Y,X⟩};{rcases aX.1 j with j|j;{rcases l.some_ o j with h|h;{exact .inl (aS h (m.h _))};exact .inr (up _ h)};exact m.some_ o j};{rw[aw]at hd;obtain⟨n1,A⟩:=l.deep hd.1;obtain⟨n2,n⟩:=m.deep hd.2;refine⟨?_,λo j=>?_⟩;{rw[cE,cD];refine⟨n1,n2,?_⟩;intro a ha b j e;subst e;obtain⟨L,BK,rfl⟩:=dv.1 ha;obtain⟨K,iN,H⟩:=dv.1 j;exact (n K iN).2 (by rw[H];exact (A L BK).1.1)};rcases aX.1 j with j|j;{exact⟨up _ (A o j).1,(A o j).2⟩};exact⟨(n o j).1,λh=>(n o j).2 ((l.fI _ h).1)⟩};{obtain⟨y,x⟩:=l.fI g q;obtain⟨W,V⟩:=m.fI g y;exact⟨W,V.trans x⟩};{rcases m.own g with h|h;{rw[h];exact l.own g};exact .inr h};{intro e i;rcases aU.1 i with rfl|i;{exact C.1};exact k2 e i};{intro Q e i;rcases aU.1 i with rfl|i;{have:=C.2 Q;simpa [dc] using this};exact f2 Q e i};intro d B;rcases aU.1 B with rfl|B;{exact lS};exact z2 d B};cases i};cases i
end
end
section
open Go.RowKit
theorem C6{b}:∀{c},c.all C.const=I->C.jU b c=c
 |[],_=>by simp[C.jU]
 |a::c,h=>by simp only[dt,aw]at h;have d:=C6 (b:=b) h.2;cases a<;>simp_all[C.jU,C.kill,C.const]
def an4:Value->D->Bool
 | .int k n,.int d c=>k ==d && n ==c && k.wrap n ==n
 | .bool b,.bool e=>b ==e
 | .string s,.str a=>s.data.toList ==a.data.toList && jZ s.size maxLen
 | .slice O 0 0,.list k _ []=>eP 0 k
 |_,_=>J
def GZ:M Value->M D->Bool
 |[],[]=>I
 |v::vs,c::cs=>an4 v c && GZ vs cs
 |_,_=>J
theorem JO{w}:∀vs b,GZ vs b=I->gK w b vs []
 |[],[],_=>by simp[gK]
 |[],_::_,h=>by simp[GZ]at h
 |_::_,[],h=>by simp[GZ]at h
 |v::vs,d::b,h=>by simp[GZ]at h;refine⟨v,vs,[],[],rfl,rfl,?_,JO vs b h.2⟩;have ok:=h.1;unfold an4 at ok;split at ok;{simp at ok;obtain⟨⟨rfl,rfl⟩,a⟩:=ok;simp[Rp,a]};{simp at ok;subst ok;simp[Rp]};{simp only[aw,beq_iff_eq,Nat.ble_eq]at ok;obtain⟨c,a⟩:=ok;rw[Mn c]at a ⊢;simp[Rp,a]};{simp at ok;simp only[Rp];exact⟨O,0,0,rfl,rfl,aH _,by simp,λ_=>kR,ok,λ_ h=>by simp at h,.inl ⟨rfl,trivial⟩⟩};cases ok
section
variable {P:Program} {γ:Gh} {h0:Nat->Nat} {io:M Nat} {w0:World} {s s':St} {f:Fm} {w:World} {N:Nat} {ty:TypeId} {pos:String} {aft:Array Edge} {gd:u (Nat×Bool)} {K:Fm->World->Prop}
 {cf:Nat->M A->u (M A×M A)} {mf:Nat->Bool->M D->Int->u (M D×Int)}
theorem PV{T a}(h:uW P T=Z a):∃z0:Value,z0.cells.toList=a/\∀w,(zeroValue T).run P w=.ok z0 w:=by unfold uW at h;cases c:P.info? T with|none=>{rw[c]at h;simp at h}|some i=>rw[c]at h;cases b:i.zero with|none=>{simp[b]at h}|some z0=>simp[b]at h;exact⟨z0,h,λw=>by simp[zeroValue,typeInfo,c,b]⟩
theorem aeH(d:Inv γ h0 io w0 s f w){T a j b}(t:uW P T=Z a)(m:L5 a j=I)(i:nG cf mf s (Z b) (.alloc j)=Z s')
  (h:∀c o k,Inv c h0 io w0 s' o k->Tr (Z b) [b] γ w c k f o->K o k):xv P N ⟨Z b,.alloc T,ty,pos,aft,gd⟩ f w K:=by simp only[nG]at i;split at i;{rename_i y;cases i;obtain⟨z0,n,l⟩:=PV t;have l:(execOp (fr f N).eval ⟨Z b,.alloc T,ty,pos,aft,gd⟩).run P w=.ok (.value (.pointer (Z ⟨w.heap.size,0,O⟩))) (w.alloc (.cells a.toArray T)):=by{simp[execOp,Instr.alloc,l,newVar,newRow,<- n]};refine OX l λr G p hB=>?_;have F:=d.SM p;obtain⟨c,q,H,C,B,_,_⟩:=F.Kd (b:=b) hB (.inl (d.uF (aH _))) (.inl d.size) (d.fK _ (aH _)) (AE a j m);rw[C6 y]at q;refine h c _ r (q.put b (.ptr b 0) _ (by simp[CR])) ⟨lP d p _,λx v=>C x (λe=>v (by rw[e])),λg=>by rw[B];exact aH _,.put⟩};cases i
theorem ans(a:Inv γ h0 io w0 s f w){T x y b}(i:lN N x y=I)(c:nG cf mf s (Z b) (.box y)=Z s')
  (h:∀γ' k d,Inv γ' h0 io w0 s' k d->Tr (Z b) [b] γ w γ' d f k->K k d):xv P N ⟨Z b,.box T x,ty,pos,aft,gd⟩ f w K:=by simp only[nG]at c;split at c;{rename_i o;cases c;obtain⟨v,_,_⟩:=(cU a i).cells o;have n:(execOp (fr f N).eval ⟨Z b,.box T x,ty,pos,aft,gd⟩).run P w=.ok (.value (.pointer (Z ⟨w.heap.size,0,O⟩))) (w.alloc (.cells ((fr f N).eval x).cells.toList.toArray T)):=by{simp[execOp,Instr.box,newVar,newRow,Sem.run]};refine OX n λm B j hB=>?_;have t:=a.SM j;have l:gY γ m (gF s y).cells ((fr f N).eval x).cells.toList:=v.mono (γ':=γ) (λ_=>aH _) (lP a j (λ_=>False)).cell rfl rfl _;obtain⟨γ',r,C,q,p,_,_⟩:=t.Kd (b:=b) hB (.inl (a.uF (aH _))) (.inl a.size) (a.fK _ (aH _)) l;refine h γ' _ m (r.put b (.ptr b 0) _ (by simp[CR])) ⟨lP a j _,λx i=>q x (λe=>i (by rw[e])),λg=>by rw[p];exact aH _,.put⟩};cases c
theorem iQ.SM{w a es vs G}(h:iQ w es vs G)(b:J_ w.heap.size w a):iQ a es vs G:=
 h.ey es λd c j _=>World.cell?_of_block (w:=w) (b.block _ (iQ.lt es h d c))
theorem Inv.newRow(l:Inv γ h0 io w0 s f w){γ0 m}(o:J_ w.heap.size w m){T us}(hB:mP m w.heap.size T us){es xs k C dp G n c}(hs:m.heap.size=w.heap.size+1)
  (F:iQ w es xs G) (hx:us.take (n * k)=xs) (hn:n=es.length) (VO:n<=c) (hc:c<=maxLen) (y:us.length=c * k) (Y:0<k) (K3:∀e∈es,e.length=k) (X:C=I->flat es) (he:Emb γ0 w dp G γ) (r) :
  ∃i,Inv i h0 io w0 (s.newRow r ⟨es,k,C,dp,I,J⟩) f m/\i.sl r=.slice (Z ⟨w.heap.size,0,O⟩) n c/\i.β=γ.β/\(∀g,γ.h g<=i.h g):=by have x:j5 m w.heap.size 0 xs:=by{intro j a B;rw[bN,hB.cell];rw[<- hx,fQ]at B;split at B;{exact B};cases B};cases dp with|true=>{obtain⟨jy,W⟩:=he.deep rfl;have U:=l.SM o;have H:sF γ.h m ⟨es,k,C,I,I,J⟩ (.slice (Z ⟨w.heap.size,0,O⟩) n c) (w.heap.size::G.map fS):=by{refine⟨_,n,c,rfl,hn,VO,hc,Y,K3,X,.inr ⟨w.heap.size,0,xs,G,rfl,by omega,⟨by omega,o.Sb _ (aH _)⟩,F.SM o,x,by rw[l.fK _ (aH _)];omega,λ_=>l.fK _ (aH _),λ_=>⟨rfl,T,us,hB,y⟩,λ_=>⟨rfl,λq p=>⟨(W q p).1.2.1,(lP l o (λ_=>False)).jl _ (W q p).1.2.2⟩⟩,λh=>by cases h⟩⟩};have gk:=iQ.lt es F;obtain⟨i,S,R,Q,L,_⟩:=U.yi (r:=r) H (cW.2 ⟨λhm=>by obtain⟨q,p,e⟩:=dv.1 hm;have:=gk q p;omega,jy⟩) (λg t=>by rcases aU.1 t with rfl|t;{exact⟨.inl (l.uF (aH _)),by omega,.inl l.size⟩};obtain⟨q,p,rfl⟩:=dv.1 t;have y:=(W q p).1.1;exact⟨.inr (.inl y),by have:=gk q p;omega,(l.own _ (by rw[y];simp)).2⟩);exact⟨i,S,R,Q,λg=>by rw[L];exact aH _⟩}|false=>obtain⟨n7,i2,b2,s2,m2,V,fr2,k2⟩:=l.afr G he.some_;have U:=i2.SM o;have H:sF n7.h m ⟨es,k,C,J,I,J⟩ (.slice (Z ⟨w.heap.size,0,O⟩) n c) [w.heap.size]:=by{refine⟨_,n,c,rfl,hn,VO,hc,Y,K3,X,.inr ⟨w.heap.size,0,xs,G,rfl,by omega,⟨by omega,o.Sb _ (aH _)⟩,F.SM o,x,by rw[i2.fK _ (aH _)];omega,λ_=>i2.fK _ (aH _),λ_=>⟨rfl,T,us,hB,y⟩,(λh=>by cases h),λ_=>⟨rfl,V⟩⟩⟩};obtain⟨i,S,R,Q,L,_⟩:=U.yi (r:=r) H (by simp) (λg t=>by simp at t;subst t;exact⟨.inl (i2.uF (aH _)),by omega,.inl l.size⟩);exact⟨i,S,R,Q.trans b2,λg=>by rw[L];exact m2 g⟩
def GX(N:Nat):Nat->M (Nat×Operand)->M KX->Bool
 |_,[],[]=>I
 |j,(i,x)::a,y::ys=>i ==j && lN N x y && GX N (j+1) a ys
 |_,_,_=>J
theorem JN(b:Inv γ h0 io w0 s f w):∀j a ys,GX N j a ys=I->
  gY γ w (ys.map (gF s)) (a.map λp=>(fr f N).eval p.2)/\a.map fS=List.range' j a.length/\a.length=ys.length
 |_,[],[],_=>by simp[gY]
 |_,[],_::_,h=>by simp[GX]at h
 |_,_::_,[],h=>by simp[GX]at h
 |j,(i,x)::a,y::ys,h=>by simp[GX,beq_iff_eq]at h;obtain⟨⟨rfl,k⟩,g⟩:=h;obtain⟨e,d,c⟩:=JN b (i+1) a ys g;refine⟨?_,by simp[List.range',d],by simp[c]⟩;simp;exact⟨_,_,rfl,cU b k,e⟩
theorem N3{k}:∀vs j b A,b.length=j * k->vs.map fS=List.range' j vs.length->(∀v∈vs,v.2.cells.size=k)->A.length=vs.length * k->
  Instr.fill (λi=>Z (i * k,k)) (b++A).toArray vs=Z (b++vs.flatMap λv=>v.2.cells.toList).toArray
 |[],j,b,A,_,_,_,d=>by have:A=[]:=cx (by simpa using d);simp[Instr.fill,this]
 |(i,v)::vs,j,b,A,g,l,m,d=>by simp[List.range']at l;obtain⟨rfl,l⟩:=l;have h:=m (i,v) (by simp);simp[ot]at d;simp only[Instr.fill,List.size_toArray,ay,g,d,h];have e:v.cells.zipIdx.foldl (λq (c,j)=>q.setIfInBounds (i * k+j) c) (b++A).toArray=((b++v.cells.toList)++A.drop k).toArray:=by{have p:=Ux (i * k) v.cells.toList (b++A).toArray (by simp[g,d,h]);rw[p];(have t1:(b++A).take (i * k)=b:=by rw[<- g];exact n9);have t2:(b++A).drop (i * k+k)=A.drop k:=by{rw[List.drop_append,cS (by omega),g,Nat.add_sub_cancel_left,au]};unfold eE;simp[h,t1,t2]};rw[e];have n:=N3 vs (i+1) (b++v.cells.toList) (A.drop k) (by simp[g,h,ot]) l (λa o=>m a (by simp[o])) (by simp[d]);rw[n];simp
theorem aeI(H:Inv γ h0 io w0 s f w){T a n k fl b ys r}(hU:P.underlying T=Z (.slice a))(hS:qo P a=Z k)(l:n=0\/(uW P a).isSome=I)(F:GX N 0 b.toList ys=I)(hn:n=b.size)(hm:jZ (n * k) 16777216=I)
  (j:nG cf mf s (Z r) (.vX k fl ys)=Z s') (h:∀d R t,Inv d h0 io w0 s' R t->Tr (Z r) (r::AQ (ys.map (gF s))) γ w d t f R->K R t):xv P N ⟨Z r,.buildSlice T n b,ty,pos,aft,gd⟩ f w K:=by simp[nG]at j;split at j;{rename_i es dp s1 L;split at j;{rename_i Y;cases j;obtain⟨Q,U,m⟩:=JN H 0 _ _ F;obtain⟨oY,G,i1,r1,S,l1,k1,f1,z1⟩:=NH _ H Q L;have lS:(b.toList.map λp=>(fr f N).eval p.2).flatMap (λv=>v.cells.toList)=(b.toList.map λp=>(p.1,(fr f N).eval p.2)).flatMap λv=>v.2.cells.toList:=by{simp[List.flatMap_map]};(have Ou:n=es.length:=by rw[l1,aj,<- m,hn,jv]);(have VW:((b.toList.map λp=>(fr f N).eval p.2).flatMap λv=>v.cells.toList).length=n * k:=by rw[iQ.length es r1 k1,Ou]);(have hm':n * k<=16777216:=by simpa using hm);have nK:(execOp (fr f N).eval ⟨Z r,.buildSlice T n b,ty,pos,aft,gd⟩).run P w=.ok (.value (.slice (Z ⟨w.heap.size,0,O⟩) n n)) (w.alloc (.cells ((b.toList.map λp=>(fr f N).eval p.2).flatMap λv=>v.cells.toList).toArray a)):=by{(have q:¬(n * k > 2 ^ 24):=by omega);have V:∀A:Array Value,A.size=n * k->Instr.fill (λi=>Z (i * k,k)) A (b.toList.map λp=>(p.1,(fr f N).eval p.2))=Z ((b.toList.map λp=>(fr f N).eval p.2).flatMap λv=>v.cells.toList).toArray:=by{intro A hA;have h1:=N3 (k:=k) (b.toList.map λp=>(p.1,(fr f N).eval p.2)) 0 [] A.toList (by simp) (by rw[List.map_map,aj];exact U) (by intro v hv;obtain⟨p,hp,rfl⟩:=dv.1 hv;exact z1 _ (dH hp)) (by simp[hA,hn]);rw[lS];simpa using h1};have o:=λX:Array Value=>V ((Array.range (n * k)).map (X[· % X.size]!)) (by simp);by_cases W:n * k=0;{have e:=o #[];simp[execOp,Instr.buildSlice,run_underlying hU,run_sizeOf hS,if_neg q,if_pos W];simp at e ⊢;rw[e];simp[newRow,Sem.run]};have y:(uW P a).isSome=I:=by{rcases l with l|l;{subst l;simp at W};exact l};obtain⟨zl,C⟩:=cu.1 y;obtain⟨z0,_,B⟩:=PV C;have e:=o z0.cells;simp only[execOp,Instr.buildSlice,Sem.run_bind,run_underlying hU,Result.andThen_ok,run_sizeOf hS,if_neg q,if_neg W,B];simp at e ⊢;rw[e];simp[newRow,Sem.run]};refine OX nK λw1 hs hk hB=>?_;obtain⟨d,h2,e,h4,h5⟩:=i1.newRow hk hB (n:=n) (c:=n) hs r1 (by rw[<- VW,bl]) Ou (aH _) (by simp[maxLen];have:n<=n * k:=Nat.le_mul_of_pos_right n Y;omega) VW Y k1 f1 S r;refine h d _ w1 (h2.put r (.ref r) _ (by simp only[CR,e];exact⟨trivial,_,_,_,rfl⟩)) ⟨lP H hk _,λx _=>by rw[h4,S.β],λg=>aS (S.h g) (h5 g),.put⟩};cases j};cases j
end
end
section
open Go.RowKit
section
variable {γ:Gh} {h0:Nat->Nat} {io:M Nat} {w0:World} {s s':St} {f:Fm} {w:World}
theorem Inv.AF(C:Inv γ h0 io w0 s f w){r x}(hl:look s.rw r=Z x):
  ∃a A n c,Inv a h0 io w0 (s.dL r) f w/\a.β=γ.β/\a.sl=γ.sl/\a.h=γ.h/\(∀g,γ.ω g≠.row r->a.ω g=γ.ω g)/\(∀g,γ.ω g=.row r->a.ω g=.fI)/\
   γ.sl r=.slice A n c/\n=x.es.length/\n<=c/\c<=maxLen/\0<x.k/\(∀e∈x.es,e.length=x.k)/\(x.fl=I->flat x.es)/\
   ((A=O/\c=0)\/∃g o p G,A=Z ⟨g,o,O⟩/\g<w.heap.size/\γ.ω g=.row r/\a.ω g=.fI/\vj w g/\iQ w x.es p G/\j5 w g o p/\γ.h g<=o+n * x.k/\(x.fz=J->γ.h g=0)/\
    (x.app=I->o=0/\∃T vs,mP w g T vs/\vs.length=c * x.k)/\(∀i∈G,i.2<=γ.h i.1\/(HP a w i.1/\i.1≠g))/\(x.deep=I->(g::G.map fS).Nodup/\∀i∈G,HP a w i.1/\γ.ω i.1=.row r)):=by
 obtain⟨F,hR,B,t⟩:=C.rw r x hl;obtain⟨A,n,c,q1,Y,X,W,V,U,S,R⟩:=hR;have Q:=C.dL r;have GU:∀g,γ.ω g=.row r->(∀b K,look (s.dL r).bx b=Z K->γ.ω g≠.box b)/\∀q y,look (s.dL r).rw q=Z y->γ.ω g≠.row q:=by{intro g l;refine⟨λb K _=>by rw[l];simp,λq y hq=>?_⟩;rw[l];simp only[St.dL,fL]at hq;simp_all}
 have hs:=Q.settle (h':=γ.h) (ω':=λy=>if γ.ω y=.row r then .fI else γ.ω y) (λ_=>aH _) (λg l=>absurd rfl l)
  (λy=>by
   by_cases j:γ.ω y=.row r
   .exact .inr ⟨.inr (by simp[j]),by rw[j];simp,GU y j⟩
   .exact .inl (by simp[j]))
  (λy b j=>by
   by_cases L:γ.ω y=.row r
   .simp[L]at j
   .simp[if_neg L]at j;exact C.nJ y b j)
 refine⟨_,A,n,c,hs,rfl,rfl,rfl,λg l=>by simp[l],λg l=>by simp[l],q1,Y,X,W,V,U,S,?_⟩;rcases R with ⟨rfl,rfl,rfl⟩|⟨g,o,p,G,rfl,a2,a3,a4,a5,a6,a7,a8,a9,D⟩;{exact .inl ⟨rfl,rfl⟩};have N:γ.ω g=.row r:=by{cases hd:x.deep with|true=>{exact t g (by rw[(a9 hd).1];simp)}|false=>exact t g (by rw[(D hd).1];simp)};have P:x.deep=I->∀i∈G,HP {γ with h:=γ.h,ω:=λy=>if γ.ω y=.row r then .fI else γ.ω y } w i.1/\γ.ω i.1=.row r:=λhd i m=>by{have H:γ.ω i.1=.row r:=t _ (by rw[(a9 hd).1];simp;exact .inr ⟨i.2,m⟩);exact⟨⟨by simp[H],((a9 hd).2 i m).1,((a9 hd).2 i m).2⟩,H⟩};refine .inr ⟨g,o,p,G,rfl,a2,N,by simp[N],a3,a4,a5,a6,a7,a8,λi m=>?_,λhd=>⟨by rw[<- (a9 hd).1];exact B,P hd⟩⟩;cases hd:x.deep with|true=>{refine .inr ⟨(P hd i m).1,λe=>?_⟩;rw[(a9 hd).1]at B;exact (cW.1 B).1 (by rw[<- e];exact dH m)}|false=>exact .inl ((D hd).2 i m)
theorem Inv.IZ(B:Inv γ h0 io w0 s f w){r x n c g o xs G}(V:n=x.es.length)(Y:n<=c)(X:c<=maxLen)(P:0<x.k)(K3:∀e∈x.es,e.length=x.k)(L:x.fl=I->flat x.es)
  (D:g<w.heap.size) (N:γ.ω g=.fI\/γ.ω g=.free) (Jl:w0.heap.size<=g\/g∈io) (A:vj w g) (H:iQ w x.es xs G) (m:j5 w g o xs) (W:γ.h g<=o+n * x.k) (VJ:x.fz=J->γ.h g=0) (Q:x.app=I->o=0/\∃T vs,mP w g T vs/\vs.length=c * x.k)
  (Ox:∀q∈G,q.2<=γ.h q.1\/(HP γ w q.1/\q.1≠g)) (Fk:x.deep=I->(g::G.map fS).Nodup/\∀q∈G,HP γ w q.1) :
  ∃j F,Inv j h0 io w0 s f w/\j.β=γ.β/\j.sl=γ.sl/\(∀y,γ.h y<=j.h y)/\sF j.h w x (.slice (Z ⟨g,o,O⟩) n c) F/\F.Nodup/\(∀y∈F,(j.ω y=.free\/j.ω y=.fI\/j.ω y=.row r)/\y<w.heap.size/\(w0.heap.size<=y\/y∈io))/\(x.deep=J->dW j.h G)/\(∀y,j.ω y=γ.ω y\/j.ω y=.free):=by
 cases hd:x.deep with
 |true=>obtain⟨jy,K8⟩:=Fk hd;have K:sF γ.h w x (.slice (Z ⟨g,o,O⟩) n c) (g::G.map fS):=by{refine⟨_,n,c,rfl,V,Y,X,P,K3,L,.inr ⟨g,o,xs,G,rfl,D,A,H,m,W,VJ,Q,λ_=>⟨rfl,λq p=>(K8 q p).2⟩,λh=>by rw[hd]at h;cases h⟩⟩};have gk:=iQ.lt _ H;exact⟨γ,_,B,rfl,rfl,λ_=>aH _,K,jy,λy t=>by rcases aU.1 t with rfl|t;{exact⟨by rcases N with h|h<;>simp[h],D,Jl⟩};obtain⟨q,p,rfl⟩:=dv.1 t;have m:=(K8 q p).1;exact⟨.inr (.inl m),gk q p,(B.own _ (by rw[m];simp)).2⟩,(λh=>by cases h),λ_=>.inl rfl⟩
 |false=>
  have mx:∀(l:M Nat) (a b),(b=a\/b∈l)->b<=l.foldl max a:=by{intro l;induction l with|nil=>{intro a b p;simp at p;simp[p]}|cons i l S=>intro a b p;simp;have h1:=S (max a i) (max a i) (.inl rfl);rcases p with rfl|p;{omega};rcases aU.1 p with rfl|p;{omega};exact S _ _ (.inr p)}
  have hs:=B.settle (h':=λy=>if γ.ω y=.fI/\y≠g then γ.h y+(G.map sx).foldl max 0 else γ.h y) (ω':=λy=>if γ.ω y=.fI/\y≠g then .free else γ.ω y) (λy=>by split<;>omega)
   (λy t=>by
    have m:γ.ω y=.fI:=by
     rcases jo (γ.ω y=.fI/\y≠g) with h|h
     .exact h.1
     .exact absurd (by rw[if_neg h]) t
    have U:=B.own y (by rw[m];simp);exact⟨U.1,U.2,λ_ _ _=>by rw[m];simp,λ_ _ _=>by rw[m];simp⟩)
   (λy=>by
    by_cases m:γ.ω y=.fI/\y≠g
    .exact .inr ⟨.inl (by rw[if_pos m]),by rw[m.1];simp,λ_ _ _=>by rw[m.1];simp,λ_ _ _=>by rw[m.1];simp⟩
    .exact .inl (by rw[if_neg m]))
   (λy b t=>by
    by_cases m:γ.ω y=.fI/\y≠g
    .rw[if_pos m]at t;cases t
    .rw[if_neg m]at t ⊢;exact B.nJ y b t)
  (have R:dW (λy=>if γ.ω y=.fI/\y≠g then γ.h y+(G.map sx).foldl max 0 else γ.h y) G:=by{intro q p;have hle:=mx (G.map sx) 0 q.2 (.inr (dH p));dsimp only;split;{omega};rename_i m;rcases Ox q p with h|h;{exact h};exact absurd ⟨h.1.1,h.2⟩ m});(have C:(λy=>if γ.ω y=.fI/\y≠g then γ.h y+(G.map sx).foldl max 0 else γ.h y) g=γ.h g:=by simp);(have K:sF (λy=>if γ.ω y=.fI/\y≠g then γ.h y+(G.map sx).foldl max 0 else γ.h y) w x (.slice (Z ⟨g,o,O⟩) n c) [g]:=by{refine⟨_,n,c,rfl,V,Y,X,P,K3,L,.inr ⟨g,o,xs,G,rfl,D,A,H,m,by rw[C];exact W,λh=>by rw[C];exact VJ h,Q,(λh=>by rw[hd]at h;cases h),λ_=>⟨rfl,R⟩⟩⟩});exact⟨_,[g],hs,rfl,rfl,λy=>by dsimp only;split<;>omega,K,by simp,λy t=>by simp at t;subst t;refine⟨?_,D,Jl⟩;rcases N with h|h<;>simp[h],λ_=>R,λy=>by dsimp only;split<;>simp⟩
theorem Inv.zM(R:Inv γ h0 io w0 s f w){r x n c g o xs G}(P:n=x.es.length)(VO:n<=c)(V:c<=maxLen)(p:0<x.k)(K3:∀e∈x.es,e.length=x.k)(l:x.fl=I->flat x.es)
  (U:g<w.heap.size) (m:γ.ω g=.fI\/γ.ω g=.free) (Jl:w0.heap.size<=g\/g∈io) (j:vj w g) (L:iQ w x.es xs G) (Q:j5 w g o xs) (S:γ.h g<=o+n * x.k) (VJ:x.fz=J->γ.h g=0) (t:x.app=I->o=0/\∃T vs,mP w g T vs/\vs.length=c * x.k)
  (Ox:∀i∈G,i.2<=γ.h i.1\/(HP γ w i.1/\i.1≠g)) (Fk:x.deep=I->(g::G.map fS).Nodup/\∀i∈G,HP γ w i.1) :
  ∃a,Inv a h0 io w0 (s.newRow r x) f w/\a.sl r=.slice (Z ⟨g,o,O⟩) n c/\a.β=γ.β/\(∀y,γ.h y<=a.h y)/\∀q,q≠r->a.sl q=γ.sl q:=by obtain⟨oY,F,D,b1,A,B,W,C,X,K,H⟩:=R.IZ (r:=r) P VO V p K3 l U m Jl j L Q S VJ t Ox Fk;obtain⟨a,h2,h3,h4,h5,_,Y⟩:=D.yi (r:=r) W C X;exact⟨a,h2,h3,h4.trans b1,λy=>by rw[h5];exact B y,λq N=>by rw[Y q N,A]⟩
theorem Inv.wH(U:Inv γ h0 io w0 s f w){r x n c g o xs G}(R:n=x.es.length)(VO:n<=c)(X:c<=maxLen)(D:0<x.k)(K3:∀e∈x.es,e.length=x.k)(B:x.fl=I->flat x.es)
  (W:g<w.heap.size) (C:γ.ω g=.fI\/γ.ω g=.free) (Jl:w0.heap.size<=g\/g∈io) (l:vj w g) (Q:iQ w x.es xs G) (S:j5 w g o xs) (V:γ.h g<=o+n * x.k) (VJ:x.fz=J->γ.h g=0) (H:x.app=I->o=0/\∃T vs,mP w g T vs/\vs.length=c * x.k)
  (Ox:∀i∈G,i.2<=γ.h i.1\/(HP γ w i.1/\i.1≠g)) (Fk:x.deep=I->(g::G.map fS).Nodup/\∀i∈G,HP γ w i.1) (K:γ.sl r=.slice (Z ⟨g,o,O⟩) n c) :
  ∃a,Inv a h0 io w0 (s.setRow r x) f w/\a.sl=γ.sl/\a.β=γ.β/\(∀y,γ.h y<=a.h y)/\(x.deep=J->dW a.h G)/\(∀y,a.ω y=γ.ω y\/a.ω y=.free\/a.ω y=.row r):=by obtain⟨oY,F,P,b1,q,L,t,N,Y,m,j⟩:=U.IZ (r:=r) R VO X D K3 B W C Jl l Q S V VJ H Ox Fk;rw[<- K,<- q]at t;obtain⟨a,h2,h3,h4,A,h6⟩:=P.setRow (r:=r) t N Y;exact⟨a,h2,h3.trans q,h4.trans b1,λy=>by rw[A];exact L y,λhd=>by rw[A];exact m hd,λy=>by rcases h6 y with h|h;{rw[h];rcases j y with p|p;{exact .inl p};exact .inr (.inl p)};exact .inr (.inr h)⟩
theorem n_(m:Inv γ h0 io w0 s f w){g:Nat}{b:World}{M:Own->Prop}(a:YE g w b)(l:M (γ.ω g))(k:∀j,j<γ.h g->b.cell? ⟨g,j,O⟩=w.cell? ⟨g,j,O⟩):Bg γ M w b where
 os:=a.os
 tape:=a.tape
 output:=a.output
 size:=by rw[a.size];exact aH _
 block y c d:=a.block y (λe=>d (e▸l))
 cell y j i:=by by_cases e:y=g;{subst e;exact k j i};exact World.cell?_of_block (w:=w) (a.block y e)
 jl y c:=⟨by rw[a.size];exact c.1,λj=>by
  by_cases e:y=g
  .subst e;exact a.fz j
  .rw[World.frozen?_of_block (w:=w) (a.block y e)];exact c.2 j⟩
end
def RN p m q a(h:a.length=m.length):eE (p++(m++q)) p.length a=p++a++q:=by unfold eE;simp_all
def zg{cs vs i}(h:i+vs.length<=cs.length):(eE cs i vs).length=cs.length:=by unfold eE;simp;omega
def Rs{g}{d b e Gs c a:Fp}(h:(g::(d++((b++(e++Gs))++c)).map fS).Nodup)(i:(a.map fS).Nodup)(hd:∀y∈(d++((b++(e++Gs))++c)).map fS,y∉a.map fS)(f:g∉a.map fS):
  (g::(d++((b++a++Gs)++c)).map fS).Nodup:=by simp only[cE,cW,cD]at *;grind
section
variable {P:Program} {γ:Gh} {h0:Nat->Nat} {io:M Nat} {w0:World} {s s':St} {f:Fm} {w:World} {N:Nat} {ty:TypeId} {pos:String} {aft:Array Edge} {gd:u (Nat×Bool)} {K:Fm->World->Prop}
 {cf:Nat->M A->u (M A×M A)} {mf:Nat->Bool->M D->Int->u (M D×Int)}
theorem JF{a k}(c:a.size=k)(g:0<k):∀m:Nat,(madeCells a (m * k)).toList=(aW m a.toList).flatten
 |0=>by simp[madeCells]
 |m+1=>by rw[ir,List.flatten_cons,<- JF c g m];apply gu;intro i;have e:∀n j,(madeCells a n).toList[j]?=if j<n then Z a[j % a.size]! else O:=by{intro n j;simp[madeCells,List.getElem?_range];split;{rename_i h;simp[h]};rename_i h;simp[h]};rw[e,zr,e];simp[c,ot];by_cases b:i<k;{rw[if_pos (by omega),if_pos b,Nat.mod_eq_of_lt b];simp[c,b]};rw[if_neg b];by_cases d:i<m * k+k;{rw[if_pos d,if_pos (by omega)];rw[Nat.mod_eq_sub_mod (by omega)]};rw[if_neg d,if_neg (by omega)]
theorem UA{w a vs}(h:gK w a vs []):∀m:Nat,iQ w (aW m a) (aW m vs).flatten []
 |0=>by simp[iQ]
 |m+1=>by rw[ir,ir,List.flatten_cons];exact⟨vs,_,[],[],rfl,rfl,h,UA h m⟩
theorem ais(B:Inv γ h0 io w0 s f w){T b k l fl o x F y r i a}(hU:P.underlying T=Z (.slice b))(hI:P.info? b=Z i)(hz:i.zero=Z a)(lS:i.size=k)(R:i.bytes=l)(W:0<k)(H:GZ a.cells.toList o=I)(p:o.length=k)(xB:fl=I->dc o=I)
  (t:lN N x y=I) (Q:lN N F y=I) (d:nG cf mf s (Z r) (.make k l fl o y)=Z s') (h:∀j S G,Inv j h0 io w0 s' S G->Tr (Z r) [r] γ w j G f S->K S G):xv P N ⟨Z r,.makeSlice T x F,ty,pos,aft,gd⟩ f w K:=by have v:=cU B t;have C:=cU B Q;simp[nG]at d;split at d;{rename_i r' n hr hn;cases hr;rw[hn]at v C;obtain⟨v,_⟩:=lZ v;obtain⟨C,_⟩:=lZ C;split at d;{rename_i hc;obtain⟨c1,c2,c3⟩:=hc;cases d;have BK:(i.bytes:Int) * n<=281474976710656:=by{rw[R];have U:n.toNat * l<=140737488355328:=c2;have:((n.toNat * l:Nat):Int)<=140737488355328:=Int.ofNat_le.2 U;rw[Int.natCast_mul,Int.toNat_of_nonneg c1,Int.mul_comm]at this;omega};have X:=run_make (P:=P) w T b i a hU hI hz .i64 .i64 n n c1 (Int.le_refl _) BK (by omega);have q:gK w o a.cells.toList []:=JO _ _ H;(have L:a.cells.size=k:=by rw[<- jv,gK.length _ q,p]);have ve:=JF L W n.toNat;have V:(execOp (fr f N).eval ⟨Z r,.makeSlice T x F,ty,pos,aft,gd⟩).run P w=.ok (.value (.slice (Z ⟨w.heap.size,0,O⟩) n.toNat n.toNat)) (w.alloc (.cells (aW n.toNat a.cells.toList).flatten.toArray b)):=by{rw[lS]at X;rw[<- ve];simp[execOp,v,C,X]};have VP:=UA q n.toNat;(have K3:∀e∈aW n.toNat o,e.length=k:=λe d=>by rw[(List.mem_replicate.1 d).2];exact p);(have m:((aW n.toNat a.cells.toList).flatten).length=n.toNat * k:=by rw[iQ.length _ VP K3];simp);refine OX V λw1 hs Y hB=>?_;obtain⟨j,h2,h3,h4,h5⟩:=B.newRow (γ0:=γ) (dp:=I) Y hB (n:=n.toNat) (c:=n.toNat) hs VP (by rw[<- m,bl]) (by simp) (aH _) (by simp[maxLen];omega) m W K3 (λhf e d x t=>by have h1:=xB hf;rw[(List.mem_replicate.1 d).2]at t;simp[dc]at h1;exact h1 x t) ⟨rfl,rfl,λ_=>aH _,λ_ h=>by simp at h,λ_=>by simp,λ_ h=>⟨h,rfl⟩,λ_=>.inl rfl⟩ r;exact h j _ w1 (h2.put r (.ref r) _ (by simp only[CR,h3];exact⟨trivial,_,_,_,rfl⟩)) ⟨lP B Y _,λx _=>by rw[h4],λg=>h5 g,.put⟩};cases d};cases d
theorem arj(hi:Inv γ h0 io w0 s f w){T x v a b n}(hS:qo P T=Z n)(hx:lN N x a=I)(hv:lN N v b=I)(Q:nG cf mf s O (.st n a b)=Z s')
  (h:∀γ' f' w',Inv γ' h0 io w0 s' f' w'->Tr O (gr s O (.st n a b)) γ w γ' w' f f'->K f' w'):xv P N ⟨O,.store T x v,ty,pos,aft,gd⟩ f w K:=by
 have xT:=cU hi hx;have hpv:=cU hi hv;(have fin:∀g o R L,(fr f N).eval x=.pointer (Z ⟨g,o,O⟩)->mP w g R L->((fr f N).eval v).cells.toList.length=n->o+n<=L.length->(∀q∈((fr f N).eval v).cells.toList,one q=I)-> (execOp (fr f N).eval ⟨O,.store T x v,ty,pos,aft,gd⟩).run P w=.ok .skip (ji w g (.cells (eE L o ((fr f N).eval v).cells.toList).toArray R (0,0))):=by{intro g o R L hp hB hl ho h1;have nU:=nC (P:=P) (o:=o) ((fr f N).eval v).cells.toList 0 w L hB (by omega) h1;simp only[dY]at nU;(have lS:((fr f N).eval v).cells.size=n:=by rw[<- jv];exact hl);simp[execOp,Instr.storeAt,hp,Instr.sureAddr,storeVar,run_sizeOf hS,lS,nU]});(have an5:∀{L vs},gY γ w L vs->L.all C.cell=I->∀q∈vs,one q=I:=by{intro L;induction L with|nil=>{intro vs h _;simp only[gY]at h;simp[h]}|cons c L ih=>intro vs h hc;obtain⟨v,fq,rfl,h2,h3⟩:=h;simp only[dt,aw]at hc;intro q hu;rcases aU.1 hu with rfl|hu;{cases c with|d x=>{obtain⟨F,h4,_⟩:=h2;exact h4.xV}|nil k fl=>{simp only[CR]at h2;rw[h2.1];rfl}|ref r=>{simp only[CR]at h2;obtain⟨_,A,n,c,rfl⟩:=h2;rfl}|_=>simp[C.cell]at hc};exact ih h3 hc.2 q hu});simp only[nG]at Q;split at Q;{rename_i S o B;rw[B]at xT;simp only[CR]at xT;split at Q;{rename_i L hl;split at Q;{rename_i hc;obtain⟨c1,c2,c3⟩:=hc;cases Q;obtain⟨R,vs,h1,h2,h3⟩:=hi.bx S L hl;obtain⟨TE,_,_⟩:=hpv.cells c1;have hlen:=TE.length;refine Rw (fin _ _ _ _ xT h1 (by rw[hlen];exact c2) (by rw[h2.length];exact c3) (an5 TE c1)) ?_;have V:=YE.ji w (γ.β S) (eE vs o ((fr f N).eval v).cells.toList).toArray R;have u5:Bg γ (λo=>∃i∈[S],o=.box i\/o=.row i) w _:=n_ hi V ⟨S,by simp,.inl h3⟩ (λj U=>by rw[hi.nJ _ _ h3]at U;omega);have agm:Inv γ h0 io w0 {s with bx:=sy s.bx S } f w:=hi.sub (λ_ _ h=>h) (λd c h=>by simp only[fL]at h;split at h;{cases h};exact h) (λ_ _ h=>h);have h5:=agm.YI (n_ agm V (M:=λo=>o=.box S) h3 (λj U=>by rw[hi.nJ _ _ h3]at U;omega)) (by simp) (λb B=>by cases B;simp[fL]) (λr hr=>by cases hr);have al3:∀{L us},gY γ w L us->gY γ (ji w (γ.β S) (.cells (eE vs o ((fr f N).eval v).cells.toList).toArray R (0,0))) L us:=λh=>h.mono (γ':=γ) (λ_=>aH _) u5.cell rfl rfl _;have h6:=h5.gB (b:=S) (h1.mF R _) h3 (al3 (h2.spl o TE));have e:({s with bx:=sy s.bx S }:St).gB S (nM L o (gF s b).cells)=s.gB S (nM L o (gF s b).cells):=by{(have:sy (sy s.bx S) S=sy s.bx S:=by simp[sy,List.filter_filter]);simp[St.gB,this]};rw[e]at h6;refine h γ f _ h6 ⟨?_,λ_ _=>rfl,λ_=>aH _,.skip⟩;simp only[gr,B];exact u5};cases Q};cases Q}
 .rename_i r k i o B;rw[B]at xT;simp only[CR]at xT;obtain⟨g,p,m,cc,mW,hp⟩:=xT;split at Q
  .rename_i ds dp s1 hem;obtain⟨C4,vd⟩:=vv hem;obtain⟨TE,_,_⟩:=hpv.cells C4;obtain⟨oY,G1,i1,r1,e1⟩:=zW _ hi TE hem;split at Q
   .rename_i row hl;split at Q
    .rename_i e BN;split at Q
     .rename_i hc;obtain⟨rfl,VJ,u6,Oj,hon,xB,hdd⟩:=hc;cases Q;rw[ek]at BN;obtain⟨n7,A,n',c',i2,b2,AS,rf,o2,l2,q1,q2,q3,q4,q5,q6,q7,q8⟩:=i1.AF hl;rw[e1.sl,mW]at q1;cases q1;rcases q8 with ⟨q8,_⟩|⟨g',p',W,G,a1,a2,a3,a4,a5,a6,a7,a8,a9,xw,a11,a12⟩;{cases q8}
      .cases a1;obtain⟨rfl,R,vs,hB,MW⟩:=xw u6;have D6:oY.h g=0:=a9 VJ;have ahC:=(bn.1 BN).1;have HR:=q6 e (fR BN);have hul:=TE.length;(have hus:((fr f N).eval v).cells.toList.length=n:=by rw[hul,<- vd];exact Oj);(have hik:i * row.k+row.k<=row.es.length * row.k:=by rw[<- ot];exact eK _ ahC);have hck:row.es.length * row.k<=cc * row.k:=eK _ (by omega);refine Rw (fin _ _ _ _ hp hB hus (by omega) (an5 TE C4)) ?_;have V:=YE.ji w g (eE vs (0+i * row.k+o) ((fr f N).eval v).cells.toList).toArray R;(have aaS:γ.ω g=.row r:=by{rcases e1.own g with h|h|h;{rw[<- h];exact a3};{rw[a3]at h;cases h};rw[a3]at h;cases h});(have aq4:γ.h g=0:=by have:=e1.h g;omega);have u5:Bg γ (λo=>∃i∈r::rowsOf (gF s b).cells,o=.box i\/o=.row i) w _:=n_ hi V ⟨r,by simp,.inr aaS⟩ (λj U=>by rw[aq4]at U;omega);have h5:=i2.YI (n_ i2 V (M:=λo=>o=.fI) a4 (λj U=>by rw[rf,D6]at U;omega)) (by simp) (λb B=>by cases B) (λr hr=>by cases hr);(have e0:row.es=row.es.take i++(e::row.es.drop (i+1)):=by{rw[<- (bn.1 BN).2,List.getElem_cons_drop,cp]});have a6':=a6;rw[e0]at a6';obtain⟨x1,x2,Ga,Gb,ex,eG,ra,rb⟩:=iQ.j6 _ a6';simp only[iQ]at rb;obtain⟨xe,x3,Ge,Gc,ex2,eG2,re,rc⟩:=rb;subst ex2 eG2;(have MU:x1.length=i * row.k:=by{rw[iQ.length _ ra (λx hx=>q6 x (ed hx)),bk,qD (by omega)]});(have hle:xe.length=row.k:=by rw[gK.length _ re];exact HR);(have e2:e=e.take o++((e.drop o).take n++e.drop (o+n)):=by{rw[<- zn,cp,cp]});have re':=re;rw[e2]at re';obtain⟨xa,xr,Gp,Gr,ex3,eG3,rp,rr⟩:=gK.j6 _ re';obtain⟨xm,xc,Gm,Gs,ex4,eG4,rm,rs⟩:=gK.j6 _ rr;subst ex3 eG3 ex4 eG4;(have hla:xa.length=o:=by rw[gK.length _ rp,bk,HR,qD (by omega)]);(have hlm:xm.length=n:=by rw[gK.length _ rm,bk,kO,HR,qD (by omega)]);(have fK:gK w (nM e o ds) (xa++((fr f N).eval v).cells.toList++xc) (Gp++G1++Gs):=by{unfold nM;rw[Oj];exact gK.append _ (gK.append _ rp r1) rs});(have VW:W.length<=vs.length:=by rw[iQ.length _ a6 q6,MW];exact hck);(have adW:vs=W++vs.drop W.length:=by{have:vs.take W.length=W:=by{apply gu;intro j;rw[fQ];by_cases U:j<W.length;{rw[if_pos U];have Y:=a7 j W[j] (by simp[U]);rw[bN,hB.cell]at Y;rw[Y];simp[U]};rw[if_neg U,xM (by omega)]};rw[<- cp W.length vs,this];simp});(have ahN:eE vs (0+i * row.k+o) ((fr f N).eval v).cells.toList=(x1++((xa++((fr f N).eval v).cells.toList++xc)++x3))++vs.drop W.length:=by{have e5:vs=(x1++xa)++(xm++(xc++x3++vs.drop W.length)):=by{rw[ex]at adW;rw[ex];simpa using adW};have Y:=RN (x1++xa) xm (xc++x3++vs.drop W.length) ((fr f N).eval v).cells.toList (by omega);rw[<- e5]at Y;rw[show 0+i * row.k+o=(x1++xa).length from by simp[MU,hla],Y];simp});(have ahD:j5 (ji w g (.cells (eE vs (0+i * row.k+o) ((fr f N).eval v).cells.toList).toArray R (0,0))) g 0 (x1++((xa++((fr f N).eval v).cells.toList++xc)++x3)):=by{have Y:=(hB.mF R (eE vs (0+i * row.k+o) ((fr f N).eval v).cells.toList)).Xh;intro j q hu;refine Y j q ?_;rw[ahN,eH (bn.1 hu).1];exact hu});(have hold:∀t∈Ga++((Gp++Gs)++Gc),t∈G:=by{intro t B;rw[eG];simp only[aX]at B ⊢;grind});(have BQ:∀t∈Ga++((Gp++G1++Gs)++Gc),t∈G\/t∈G1:=by{intro t B;simp only[aX]at B;by_cases X:t∈G1;{exact .inr X};refine .inl (hold t ?_);simp only[aX];grind});(have Q_:∀t∈Ga++((Gp++G1++Gs)++Gc),t.2<=n7.h t.1\/(HP n7 (ji w g (.cells (eE vs (0+i * row.k+o) ((fr f N).eval v).cells.toList).toArray R (0,0))) t.1/\t.1≠g):=by{intro t B;rcases BQ t B with X|X;{rcases a11 t X with H|⟨H,xS⟩;{exact .inl (by rw[rf];exact H)};exact .inr ⟨⟨H.1,H.2.1,by rw[iF];exact H.2.2.1,λj=>by rw[World.frozen?_of_block (w:=w) (V.block _ xS)];exact H.2.2.2 j⟩,xS⟩};rcases e1.some_ t X with H|H;{exact .inl (by rw[rf];exact H)};(have xS:t.1≠g:=λe=>by have:=H.1;rw[e,a3]at this;cases this);exact .inr ⟨⟨by rw[o2 _ (by rw[H.1];simp)];exact H.1,by rw[rf];exact H.2.1,by rw[iF];exact H.2.2.1,λj=>by rw[World.frozen?_of_block (w:=w) (V.block _ xS)];exact H.2.2.2 j⟩,xS⟩});have Dx:iQ (ji w g (.cells (eE vs (0+i * row.k+o) ((fr f N).eval v).cells.toList).toArray R (0,0))) (row.es.set i (nM e o ds)) (x1++((xa++((fr f N).eval v).cells.toList++xc)++x3)) (Ga++((Gp++G1++Gs)++Gc)):=by{have Y:iQ w (row.es.set i (nM e o ds)) (x1++((xa++((fr f N).eval v).cells.toList++xc)++x3)) (Ga++((Gp++G1++Gs)++Gc)):=by{rw[List.set_eq_take_append_cons_drop,if_pos ahC];refine iQ.append _ ra ?_;simp only[iQ];exact⟨_,_,_,_,rfl,rfl,fK,rc⟩};refine Y.ey _ λt B j U=>?_;by_cases X:t.1=g;{rcases Q_ t B with H|H;{rw[X,rf,D6]at H;omega};exact absurd X H.2};exact World.cell?_of_block (w:=w) (V.block _ X)}
       obtain⟨Qb,h6,Y,X,H,_,_⟩:=h5.wH (r:=r) (x:={row with es:=row.es.set i (nM e o ds) }) (n:=m) (c:=cc) (g:=g) (o:=0) (by simp[q2]) q3 q4 q5
        (λy hy=>by
         rcases List.mem_or_eq_of_mem_set hy with h|h
         .exact q6 y h
         .rw[h];unfold nM;simp[HR];omega)
        (λhf y hy=>by
         rcases List.mem_or_eq_of_mem_set hy with h|h
         .exact q7 hf y h
         .rw[h];intro l hz;unfold nM at hz;simp only[aX]at hz;rcases hz with (hz|hz)|hz
          .exact q7 hf e (fR BN) l (ed hz)
          .have:=xB hf;simp only[dc,bF]at this;exact this l hz
          .exact q7 hf e (fR BN) l (List.mem_of_mem_drop hz))
        (by rw[iF];exact a2) (.inl a4) (by have:=(i2.own g (by rw[a4];simp)).2;exact this) ⟨by rw[iF];omega,V.fz⟩ Dx ahD (by rw[rf,D6];omega) (λ_=>by rw[rf,D6]) (λ_=>⟨rfl,R,_,hB.mF R _,by rw[zg (by omega)];exact MW⟩)
        Q_
        (λhd=>by
         have Yh:dp=I:=by
          have hd':row.deep=I:=hd
          simpa [hd'] using hdd
         obtain⟨n1,l1⟩:=e1.deep Yh;obtain⟨n2,l2'⟩:=a12 hd;refine⟨?_,λt B=>?_⟩
         .have agl:∀y∈G.map fS,y∉G1.map fS:=by
           intro y hy hy1;obtain⟨t,B,rfl⟩:=dv.1 hy;obtain⟨be1,BK,e8⟩:=dv.1 hy1;have u1:=(l2' t B).2;have u2:=(l1 be1 BK).1.1;rw[e8,u1]at u2;cases u2
          have hg1:g∉G1.map fS:=by
           intro hy1;obtain⟨be1,BK,e8⟩:=dv.1 hy1;have u2:=(l1 be1 BK).1.1;rw[e8,a3]at u2;cases u2
          rw[eG]at n2 agl;exact Rs n2 n1 agl hg1
         .rcases Q_ t B with xS|xS
          .rcases BQ t B with BI|BI
           .have:=(l2' t BI).1;rcases a11 t BI with Ae|Ae
            .refine⟨this.1,this.2.1,?_⟩;have iH:t.1≠g:=λe9=>by
              have:=(cW.1 n2).1;exact this (by rw[<- e9];exact dH BI)
             exact⟨by rw[iF];exact this.2.2.1,λj=>by rw[World.frozen?_of_block (w:=w) (V.block _ iH)];exact this.2.2.2 j⟩
            .exact⟨this.1,this.2.1,by rw[iF];exact this.2.2.1,λj=>by rw[World.frozen?_of_block (w:=w) (V.block _ Ae.2)];exact this.2.2.2 j⟩
           .have Ae:=(l1 t BI).1;have iH:t.1≠g:=λe=>by have:=Ae.1;rw[e,a3]at this;cases this
            exact⟨by rw[o2 _ (by rw[Ae.1];simp)];exact Ae.1,by rw[rf];exact Ae.2.1,by rw[iF];exact Ae.2.2.1,λj=>by rw[World.frozen?_of_block (w:=w) (V.block _ iH)];exact Ae.2.2.2 j⟩
          .exact xS.1)
        (by rw[AS,e1.sl];exact mW)
       (have e6:(s1.dL r).setRow r {row with es:=row.es.set i (nM e o ds) }=s1.setRow r {row with es:=row.es.set i (nM e o ds) }:=by{(have:sy (sy s1.rw r) r=sy s1.rw r:=by simp[sy,List.filter_filter]);simp[St.setRow,St.dL,this]});rw[e6]at h6;refine h Qb f _ h6 ⟨?_,λ_ _=>by rw[X,b2,e1.β],λy=>by have:=H y;rw[rf]at this;exact aS (e1.h y) this,.skip⟩;simp only[gr,B];exact u5
     cases Q
    cases Q
   cases Q
  cases Q
 cases Q
end
end
section
open Go.RowKit
section
variable {P:Program} {γ:Gh} {h0:Nat->Nat} {io:M Nat} {w0:World} {s s':St} {f:Fm} {w:World} {N:Nat} {ty:TypeId} {pos:String} {aft:Array Edge} {gd:u (Nat×Bool)} {K:Fm->World->Prop}
 {cf:Nat->M A->u (M A×M A)} {mf:Nat->Bool->M D->Int->u (M D×Int)}
theorem Qo(Q:Inv γ h0 io w0 s f w){c a}(y:CR γ w c a){k fl es dp W}(i:pO s k fl c=Z (es,dp,W)):
  ∃p G l,Inv p h0 io w0 W f w/\iQ w es l G/\Emb γ w dp G p/\(∀e∈es,e.length=k)/\(fl=I->flat es)/\((es.length=0/\∃A c,a=.slice A 0 c)\/∃b o c,a=.slice (Z ⟨b,o,O⟩) es.length c/\j5 w b o l):=by cases c with|d x=>{cases x with|list k' wM mr=>{simp only[pO]at i;split at i;{rename_i U;obtain⟨rfl,rfl⟩:=U;simp at i;obtain⟨rfl,rfl,rfl⟩:=i;obtain⟨F,⟨A,n,c,C,T,q3,q4,v,q6,L,m⟩,jt⟩:=y;rcases m with ⟨m,rfl⟩|⟨h1,b,o,R,G,rfl,rfl,a2,a3⟩;{have:mr=[]:=cx (by omega);subst this;exact⟨γ,[],[],Q,by simp[iQ],⟨rfl,rfl,λ_=>aH _,λ_ h=>by simp at h,λ_=>by simp,λ_ h=>⟨h,rfl⟩,λ_=>.inl rfl⟩,L,v,.inl ⟨rfl,A,c,by rw[C,m]⟩⟩};refine⟨γ,G,R,Q,a2,⟨rfl,rfl,λ_=>aH _,λt r=>.inl (jt t (by simp[r])),λj=>?_,λ_ h=>⟨h,rfl⟩,λ_=>.inl rfl⟩,L,v,.inr ⟨b,o,c,by rw[C,T],a3⟩⟩;have:G=[]:=a2.plain (v j);subst this;simp};cases i}|_=>simp[pO]at i}|nil k' wM=>{cases i;simp[CR]at y;exact⟨γ,[],[],Q,by simp[iQ],⟨rfl,rfl,λ_=>aH _,λ_ h=>by simp at h,λ_=>by simp,λ_ h=>⟨h,rfl⟩,λ_=>.inl rfl⟩,λ_ h=>by simp at h,λ_=>kR,.inl ⟨rfl,O,0,y.1⟩⟩}|ref q=>{simp[pO]at i;split at i;{rename_i x hx;split at i;{rename_i U;obtain⟨rfl,rfl⟩:=U;cases i;obtain⟨p,G1,Y,b1,B,X,r1,S,d1,o1,k1,V⟩:=Q.take hx;simp[CR]at y;obtain⟨A,n,c,C,T,q3,q4,v,q6,L,m⟩:=r1;have H:∀g,γ.ω g=.fI->p.ω g=.fI/\p.h g=γ.h g:=λg hg=>by{have:=k1 g (by rw[hg];simp);exact⟨this.1.trans hg,this.2⟩};rcases m with ⟨m,rfl⟩|⟨h1,b,o,R,G,rfl,rfl,a2,a3⟩;{have:x.es=[]:=cx (by omega);rw[this];exact⟨p,[],[],Y,by simp[iQ],⟨b1,B,X,λ_ h=>by simp at h,λ_=>by simp,H,V⟩,λ_ h=>by simp at h,λ_=>kR,.inl ⟨rfl,A,c,by rw[y.1,C,m]⟩⟩};refine⟨p,G,R,Y,a2,⟨b1,B,X,λt r=>?_,λj=>?_,H,V⟩,L,v,.inr ⟨b,o,c,by rw[y.1,C,T],a3⟩⟩;{cases hd:(x.deep && !x.fz) with|true=>{exact .inr ((d1 hd).2 t (by simp[r]))}|false=>exact .inl (S hd t (by simp[r]))};rw[eY]at j;rcases j with j|j;{obtain⟨n1,l1⟩:=d1 j;refine⟨(cW.1 n1).2,λt r=>⟨l1 t (by simp[r]),?_⟩⟩;rcases o1 t (by simp[r]) with h|h;{rw[h];simp};simp[h]at j};have:G=[]:=a2.plain (v j);subst this;simp};cases i};cases i}|_=>simp[pO]at i
theorem JC{a:Type}(l:M (Nat×a))r:sy (sy l r) r=sy l r:=by simp[sy]
theorem oy(s:St)r x:(s.dL r).newRow r x=s.newRow r x:=by simp[St.newRow,St.setRow,St.dL,St.kill,JC]
theorem adx(hi:Inv γ h0 io w0 s f w){oY s1 op}{r d by_:Nat}{row x E es V news G2 tl}
  (i1:Inv oY h0 io w0 s1 f w) (r2:iQ w es news G2) (B:Emb γ w V G2 oY) (hk2:∀e∈es,e.length=row.k) (hf2:row.fl=I->flat es) (xT:CR γ w (.ref r) ((fr f N).eval x)) (hl:look s1.rw r=Z row) (u6:row.app=I)
  (c3:(row.es.length+es.length) * by_<=room) (c4:row.es.length+es.length<=maxLen) (hrX:r∈tl)
  (hR:∀{n xs},xs.length=n * row.k->(((fr f N).eval x=.slice O 0 0/\n=0)\/∃g v T p,(fr f N).eval x=.slice (Z ⟨g,0,O⟩) n v/\mP w g T p/\n<=v/\v<=maxLen/\p.length=v * row.k/\p.take (n * row.k)=xs)->
   n+es.length<=maxLen->(n+es.length) * by_<=room->∃v' C,(execOp (fr f N).eval ⟨Z d,op,ty,pos,aft,gd⟩).run P w=.ok (.value v') C/\Qh w E row.k n es.length xs news ((fr f N).eval x) v' C)
  (h:∀t f' C,Inv t h0 io w0 ((s1.newRow r {row with es:=row.es++es,deep:=row.deep && V }).put (Z d) (.ref r)) f' C->Tr (Z d) tl γ w t C f f'->K f' C):xv P N ⟨Z d,op,ty,pos,aft,gd⟩ f w K:=by
 simp only[CR]at xT;have Ou:news.length=es.length * row.k:=iQ.length es r2 hk2;obtain⟨n7,A,n,c,i2,b2,AS,F,o2,l2,q1,q2,q3,q4,q5,q6,q7,q8⟩:=i1.AF hl;rw[B.sl]at q1;have rh:(fr f N).eval x=.slice A n c:=xT.1.trans q1;(have K3:∀e∈row.es++es,e.length=row.k:=λe U=>by{rcases aX.1 U with U|U;{exact q6 e U};exact hk2 e U});(have L:row.fl=I->flat (row.es++es):=λhf e U=>by{rcases aX.1 U with U|U;{exact q7 hf e U};exact hf2 hf e U});have aem:∀g,HP oY w g->HP n7 w g:=λg hg=>⟨by rw[o2 _ (by rw[hg.1];simp)];exact hg.1,by rw[F];exact hg.2.1,hg.2.2⟩;rcases q8 with ⟨rfl,rfl⟩|⟨g,o,xs,G,rfl,a2,a3,a4,a5,a6,a7,a8,a9,xw,a11,a12⟩
 ·(have K9:n=0:=by omega);subst K9;have hre:row.es=[]:=cx q2.symm;obtain⟨v',C,hr,tV⟩:=hR (n:=0) (xs:=[]) (by simp) (.inl ⟨rh,rfl⟩) (by omega) (by rw[hre]at c3;simpa using c3);refine Cv hr ?_;rcases tV with ⟨h1,rfl,rfl⟩|⟨g,v,T',p,h1,_⟩|⟨v,cs,rfl,h2,h3,h4,Q,h6,h7,h8⟩;{have HS:es=[]:=cx h1;subst HS;have hR:sF n7.h C {row with es:=row.es++[],deep:=row.deep && V } ((fr f N).eval x) []:=⟨O,0,0,rh,by simp[hre],aH _,by simp,q5,K3,L,.inl ⟨rfl,rfl,rfl⟩⟩;obtain⟨t,H,Y,X,W,_⟩:=i2.yi (r:=r) hR (by simp) (λ_ h=>by simp at h);rw[oy]at H;exact h t _ C (H.put d (.ref r) _ (by simp only[CR,Y];exact⟨trivial,O,0,0,rh⟩)) ⟨Bg.refl _ _ _,λx _=>by rw[X,b2,B.β],λg=>by rw[W,F];exact B.h g,.put⟩};{rw[rh]at h1;cases h1}
  .simp at h2 h8 ⊢;have i3:=i2.SM Q;have jj:j5 C w.heap.size 0 news:=by{intro j a R;rw[bN,h6.cell];rw[<- h8,fQ]at R;split at R;{exact R};cases R}
   have gk:=iQ.lt es r2;obtain⟨t,H,Y,X,W,_⟩:=i3.zM (r:=r) (x:={row with es:=row.es++es,deep:=row.deep && V }) (n:=es.length) (c:=v) (g:=w.heap.size) (o:=0) (by simp[hre]) h2 h3 q5 K3 L (by omega) (.inr (i2.uF (aH _))) (.inl hi.size) ⟨by omega,Q.Sb _ (aH _)⟩ (by simp only[hre,au];exact r2.SM Q) jj (by rw[i2.fK _ (aH _)];omega) (λ_=>i2.fK _ (aH _)) (λ_=>⟨rfl,E,cs,h6,h7⟩)
    (λl m=>by
     rcases B.some_ l m with q|q
     .exact .inl (by rw[F];exact q)
     .have:=aem _ q;exact .inr ⟨⟨this.1,this.2.1,(lP hi Q (λ_=>False)).jl _ this.2.2⟩,by have:=gk l m;omega⟩)
    (λhd=>by
     have Yh:V=I:=by
      have hd':(row.deep && V)=I:=hd;simp at hd';exact hd'.2
     obtain⟨n1,l1⟩:=B.deep Yh;refine⟨cW.2 ⟨λhm=>?_,n1⟩,λl m=>?_⟩
     .obtain⟨l,m,e⟩:=dv.1 hm;have:=gk l m;omega
     .have:=aem _ (l1 l m).1;exact⟨this.1,this.2.1,(lP hi Q (λ_=>False)).jl _ this.2.2⟩)
   rw[oy]at H;exact h t _ C (H.put d (.ref r) _ (by simp only[CR,Y];exact⟨trivial,_,_,_,rfl⟩)) ⟨lP hi Q _,λx _=>by rw[X,b2,B.β],λg=>by have:=W g;rw[F]at this;exact aS (B.h g) this,.put⟩
 .obtain⟨rfl,T',vs,hB,MW⟩:=xw u6;(have VW:xs.length=n * row.k:=by rw[iQ.length _ a6 q6,q2]);(have Ym:vs.take (n * row.k)=xs:=by{rw[<- VW];apply gu;intro j;rw[fQ];by_cases hj:j<xs.length;{rw[if_pos hj];have h7:=a7 j xs[j] (by simp);rw[bN,hB.cell]at h7;rw[h7];simp};rw[if_neg hj,xM (by omega)]});have VN:=iQ.lt _ a6;have adV:=iQ.lt _ r2;obtain⟨v',C,hr,tV⟩:=hR VW (.inr ⟨g,c,T',vs,rh,hB,q3,q4,MW,Ym⟩) (by omega) (by rw[q2];exact c3);(have aaS:γ.ω g=.row r:=by{rcases B.own g with h|h|h;{rw[<- h];exact a3};{rw[a3]at h;cases h};rw[a3]at h;cases h});have S:iQ w (row.es++es) (xs++news) (G++G2):=iQ.append _ a6 r2;(have Pj:∀l∈G++G2,l.2<=n7.h l.1\/(HP n7 w l.1/\l.1≠g):=by{intro l m;rcases aX.1 m with m|m;{rw[F];exact a11 l m};rcases B.some_ l m with q|q;{exact .inl (by rw[F];exact q)};exact .inr ⟨aem _ q,λe=>by have:=q.1;rw[e,a3]at this;cases this⟩});(have I2:(row.deep && V)=I->(g::(G++G2).map fS).Nodup/\∀l∈G++G2,HP n7 w l.1:=by{intro hd;rw[aw]at hd;obtain⟨n1,l1⟩:=B.deep hd.2;obtain⟨n2,l2'⟩:=a12 hd.1;refine⟨?_,λl m=>?_⟩;{rw[cE,<- av,cD];refine⟨n2,n1,?_⟩;intro y hy y' TH e;subst e;obtain⟨be1,BK,e8⟩:=dv.1 TH;have u2:=(l1 be1 BK).1.1;rcases aU.1 hy with rfl|hy;{rw[e8,a3]at u2;cases u2};obtain⟨l,m,rfl⟩:=dv.1 hy;rw[e8,(l2' l m).2]at u2;cases u2};rcases aX.1 m with m|m;{exact (l2' l m).1};exact aem _ (l1 l m).1});refine Cv hr ?_;rcases tV with ⟨h1,rfl,rfl⟩|⟨g',v,M7,p,h1,h2,h3,h4,Q,h6,h7,rfl⟩|⟨v,cs,rfl,h2,h3,h4,Q,h6,h7,h8⟩;{have HS:es=[]:=cx h1;subst HS;obtain⟨rfl,rfl⟩:=r2;simp only[aG]at S Pj I2 K3 L;obtain⟨t,H,Y,X,W,_⟩:=i2.zM (r:=r) (x:={row with es:=row.es++[],deep:=row.deep && V }) (n:=n) (c:=c) (g:=g) (o:=0) (by simp[q2]) q3 q4 q5 (by simpa using K3) (by simpa using L) a2 (.inl a4) (i2.own g (by rw[a4];simp)).2 a5 (by simpa using S) a7 (by rw[F];exact a8) (λhf=>by rw[F];exact a9 hf) (λ_=>⟨rfl,T',vs,hB,MW⟩) Pj I2;rw[oy]at H;exact h t _ C (H.put d (.ref r) _ (by simp only[CR,Y,rh];exact⟨trivial,_,_,_,rfl⟩)) ⟨Bg.refl _ _ _,λx _=>by rw[X,b2,B.β],λg=>by have:=W g;rw[F]at this;exact aS (B.h g) this,.put⟩}
  .rw[rh]at h1;obtain⟨rfl,_,rfl⟩:=h1;subst h3;(have TE:p=vs:=by{unfold mP at h2 hB;rw[hB]at h2;simp at h2;have:=h2.1;simpa using this.symm});subst TE;have nt:=YE.ji w g (eE p (n * row.k) news).toArray M7;(have BO:n * row.k+news.length<=p.length:=by rw[Ou,MW,<- mj];exact eK _ h4);(have Q4:∀j,j<n * row.k->(ji w g (.cells (eE p (n * row.k) news).toArray M7 (0,0))).cell? ⟨g,j,O⟩=w.cell? ⟨g,j,O⟩:=by{intro j hj;rw[(hB.mF M7 (eE p (n * row.k) news)).cell,hB.cell];unfold eE;rw[aZ,eH (by simp;omega),fQ,if_pos hj]});have i3:=i2.YI (n_ i2 nt (M:=λo=>o=.fI) a4 (λj hj=>Q4 j (by rw[F]at hj;omega))) (by simp) (λb m=>by cases m) (λr hr=>by cases hr);have u5:Bg γ (λo=>∃i∈tl,o=.box i\/o=.row i) w _:=n_ hi nt ⟨r,hrX,.inr aaS⟩ (λj hj=>Q4 j (by have:=B.h g;omega));(have aqX:iQ (ji w g (.cells (eE p (n * row.k) news).toArray M7 (0,0))) (row.es++es) (xs++news) (G++G2):=by{refine S.ey _ λl m j hj=>?_;by_cases h8:l.1=g;{rw[h8];rcases Pj l m with q|q;{rw[h8,F]at q;exact Q4 j (by omega)};exact absurd h8 q.2};exact World.cell?_of_block (w:=w) (nt.block _ h8)});have jj:j5 (ji w g (.cells (eE p (n * row.k) news).toArray M7 (0,0))) g 0 (xs++news):=by{have q:=(hB.mF M7 (eE p (n * row.k) news)).Xh;intro j a R;refine q j a ?_;(have e5:eE p (n * row.k) news=(xs++news)++p.drop (n * row.k+news.length):=by unfold eE;rw[Ym]);rw[e5,eH (bn.1 R).1];exact R}
   have PE:∀y,vj w y->vj (ji w g (.cells (eE p (n * row.k) news).toArray M7 (0,0))) y:=u5.jl;obtain⟨t,H,Y,X,W,_⟩:=i3.zM (r:=r) (x:={row with es:=row.es++es,deep:=row.deep && V }) (n:=n+es.length) (c:=c) (g:=g) (o:=0) (by simp[q2]) h4 q4 q5 K3 L (by rw[iF];exact a2) (.inl a4) (i2.own g (by rw[a4];simp)).2 ⟨by rw[iF];omega,nt.fz⟩ aqX jj (by rw[F];exact aS a8 (Nat.add_le_add_left (eK row.k (show n<=n+es.length by omega)) 0)) (λhf=>by rw[F];exact a9 hf) (λ_=>⟨rfl,M7,_,hB.mF M7 _,by rw[zg BO];exact MW⟩)
    (λl m=>by
     rcases Pj l m with q|q
     .exact .inl q
     .exact .inr ⟨⟨q.1.1,q.1.2.1,PE _ q.1.2.2⟩,q.2⟩)
    (λhd=>⟨(I2 hd).1,λl m=>by have:=(I2 hd).2 l m;exact⟨this.1,this.2.1,PE _ this.2.2⟩⟩)
   rw[oy]at H;exact h t _ _ (H.put d (.ref r) _ (by simp only[CR,Y];exact⟨trivial,_,_,_,rfl⟩)) ⟨u5,λx _=>by rw[X,b2,B.β],λg=>by have:=W g;rw[F]at this;exact aS (B.h g) this,.put⟩
  .have i3:=i2.SM Q;have jj:j5 C w.heap.size 0 (xs++news):=by{intro j a R;rw[bN,h6.cell];rw[<- h8,fQ]at R;split at R;{exact R};cases R}
   have gk:∀l∈G++G2,l.1<w.heap.size:=iQ.lt _ S;have PE:=(lP hi Q (λ_=>False)).jl;obtain⟨t,H,Y,X,W,_⟩:=i3.zM (r:=r) (x:={row with es:=row.es++es,deep:=row.deep && V }) (n:=n+es.length) (c:=v) (g:=w.heap.size) (o:=0) (by simp[q2]) h2 h3 q5 K3 L (by omega) (.inr (i2.uF (aH _))) (.inl hi.size) ⟨by omega,Q.Sb _ (aH _)⟩ (S.SM Q) jj (by rw[i2.fK _ (aH _)];omega) (λ_=>i2.fK _ (aH _)) (λ_=>⟨rfl,E,cs,h6,h7⟩)
    (λl m=>by
     rcases Pj l m with q|q
     .exact .inl q
     .exact .inr ⟨⟨q.1.1,q.1.2.1,PE _ q.1.2.2⟩,by have:=gk l m;omega⟩)
    (λhd=>by
     refine⟨cW.2 ⟨λhm=>?_,(cW.1 (I2 hd).1).2⟩,λl m=>by have:=(I2 hd).2 l m;exact⟨this.1,this.2.1,PE _ this.2.2⟩⟩;obtain⟨l,m,e⟩:=dv.1 hm;have:=gk l m;omega)
   rw[oy]at H;exact h t _ C (H.put d (.ref r) _ (by simp only[CR,Y];exact⟨trivial,_,_,_,rfl⟩)) ⟨lP hi Q _,λx _=>by rw[X,b2,B.β],λg=>by have:=W g;rw[F]at this;exact aS (B.h g) this,.put⟩
theorem anr(Q:Inv γ h0 io w0 s f w){T E k by_ fl x y a b d i e}(hU:P.underlying T=Z (.slice E))(hI:P.info? E=Z i)(hz:i.zero=Z e)(lS:i.size=k)(S:i.bytes=by_)(H:e.cells.size=k)(V:0<k)
  (hx:lN N x a=I) (hy:lN N y b=I) (o:nG cf mf s (Z d) (.app k by_ fl a b)=Z s') (h:∀j f' l,Inv j h0 io w0 s' f' l->Tr (Z d) (gr s (Z d) (.app k by_ fl a b)) γ w j l f f'->K f' l) :
  xv P N ⟨Z d,.call {callee:=.builtin .append,args:=#[x,y],argTypes:=#[T,T] },ty,pos,aft,gd⟩ f w K:=by have p:=cU Q hx;have hpy:=cU Q hy;simp[nG]at o;split at o;{cases o};rename_i es dp s1 aaQ;obtain⟨oY,G2,G,i1,W,F,t,R,hu⟩:=Qo Q hpy aaQ;have Ou:G.length=es.length * k:=iQ.length es W t;have Ai:=W.xV;have nK:∀{B l},(Builtin.append_ #[T,T] ty #[(fr f N).eval x,(fr f N).eval y]).run P w=.ok B l->(execOp (fr f N).eval ⟨Z d,.call {callee:=.builtin .append,args:=#[x,y],argTypes:=#[T,T] },ty,pos,aft,gd⟩).run P w=.ok (.value B) l:=by{intro B l L;simp[execOp,resolve,invoke,builtin,L]};split at o;{rename_i k' wM q;rw[q]at p;simp[CR]at p;split at o;{rename_i hc;obtain⟨rfl,rfl,c3,c4⟩:=hc;cases o;obtain⟨B,l,L,tV⟩:=UJ (P:=P) (w:=w) (ty:=ty) (k:=k') (by_:=by_) hU hI hz lS S H V (v:=(fr f N).eval x) (n:=0) (xs:=[]) (by simp) (.inl ⟨p.1,rfl⟩) (u:=(fr f N).eval y) (m:=es.length) Ou hu Ai (by omega) (by simpa using c3);refine Cv (nK L) ?_;rcases tV with ⟨C,rfl,rfl⟩|⟨g,U,T',cur,C,_⟩|⟨U,cs,rfl,X,h3,h4,h5,h6,h7,h8⟩;{have HS:es=[]:=cx C;subst HS;have hR:sF oY.h l ⟨[],k',wM,dp,I,J⟩ ((fr f N).eval x) []:=⟨O,0,0,p.1,rfl,aH _,by simp,V,λ_ h=>by simp at h,λ_=>kR,.inl ⟨rfl,rfl,rfl⟩⟩;obtain⟨j,j1,j2,j3,Y,_⟩:=i1.yi (r:=d) hR (by simp) (λ_ h=>by simp at h);exact h j _ l (j1.put d (.ref d) _ (by simp only[CR,j2];exact⟨trivial,O,0,0,p.1⟩)) ⟨Bg.refl _ _ _,λx _=>by rw[j3,F.β],λg=>by rw[Y];exact F.h g,.put⟩};{rw[p.1]at C;cases C};simp at X h8 ⊢;obtain⟨j,j1,j2,j3,Y⟩:=i1.newRow h5 h6 (n:=es.length) (c:=U) h4 W h8 rfl X h3 h7 V t R F d;exact h j _ l (j1.put d (.ref d) _ (by simp only[CR,j2];exact⟨trivial,_,_,_,rfl⟩)) ⟨lP Q h5 _,λx _=>by rw[j3,F.β],λg=>aS (F.h g) (Y g),.put⟩};cases o};{rename_i r q;rw[q]at p;simp[CR]at p;split at o;{rename_i row hl;split at o;{rename_i hc;obtain⟨rfl,rfl,u6,c3,c4⟩:=hc;cases o;exact adx (E:=E) Q i1 W F t R (by simpa only [CR] using p) hl u6 c3 c4 (by simp[gr,q,rowsOf]) (λC X h3 h4=>by obtain⟨B,l,L,ho⟩:=UJ (P:=P) (w:=w) (ty:=ty) hU hI hz lS S H V C X (u:=(fr f N).eval y) (m:=es.length) Ou hu Ai h3 h4;exact⟨B,l,nK L,ho⟩) h};cases o};cases o};cases o
end
end
section
open Go.RowKit
def P3(h:Nat->Nat)(w:World):RV->Value->M Nat->Prop
 | .d x,v,F=>F=[]/\∃G,Rp w x v G/\dW h G
 | .row r,v,F=>sF h w r v F/\F.Nodup
def jN(h:Nat->Nat)(w:World):M RV->M Value->M Nat->Prop
 |[],vs,F=>vs=[]/\F=[]
 |r::rs,vs,F=>∃v a c b,vs=v::a/\F=c++b/\P3 h w r v c/\jN h w rs a b
def AR(h:Nat->Nat)(w:World):A->Value->M Nat->Prop
 | .val a cs,v,F=>∃vs,jN h w cs vs F/\(a=I->v=.agg vs.toArray)/\(a=J->vs=[v])
 | .box cs,v,F=>∃g T vs b,v=.pointer (Z ⟨g,0,O⟩)/\mP w g T vs/\h g=0/\F=g::b/\jN h w cs vs b
def ly(h:Nat->Nat)(w:World):M A->M Value->M Nat->Prop
 |[],vs,F=>vs=[]/\F=[]
 |a::as,vs,F=>∃v b d c,vs=v::b/\F=d++c/\AR h w a v d/\ly h w as b c
structure ye (h:Nat->Nat) (F:List Nat) (w w':World) (h':Nat->Nat):Prop where
 os:w'.os=w.os
 tape:w'.tape=w.tape
 output:w'.output=w.output
 size:w.heap.size<=w'.heap.size
 block:∀g,g<w.heap.size->g∉F->w'.heap[g]?=w.heap[g]?
 cell:∀g j,g<w.heap.size->j<h g->w'.cell? ⟨g,j,none⟩=w.cell? ⟨g,j,none⟩
 mono:∀g,g<w.heap.size->h g<=h' g
 hold:∀g,g<w.heap.size->g∉F->h' g=h g
 fK:∀g,w'.heap.size<=g->h' g=0
 jl:∀g,vj w g->vj w' g
def fx:M A->M Value->M Value
 | .box _::as,v::vs=>v::fx as vs
 | .val _ _::as,_::vs=>fx as vs
 |_,_=>[]
def U3(a:M Value)(v:Value):Prop:=a=[v]\/(a.length≠1/\v=.tuple a.toArray)
def Ek:String:= "internal/strconv.uint64pow10"
def Ya(P:Program)(w:World)(F:M Nat):Prop:=∀g,P.globalNamed Ek=Z g->g<w.heap.size/\g∉F/\Lib.TabIs P w Ek .u64 Lib.pow10Tab
def Ya.step{P w e F j}(h:Ya P w F)(o:w.heap.size<=e.heap.size)(n:∀g,g<w.heap.size->g∉F->e.heap[g]?=w.heap[g]?)(m:∀g∈j,w.heap.size<=g\/g∈F):Ya P e j:=by intro g f;obtain⟨a,b,c⟩:=h g f;refine⟨by omega,λl=>?_,?_⟩;{rcases m g l with i|i;{omega};exact b i};unfold Lib.TabIs World.var? at c ⊢;rw[f]at c ⊢;simp at c ⊢;rw[n g a b];exact c
def Ka(P:Program)(g:FuncId)(as i outs:M A)(w:World)(h:Nat->Nat)(vs:M Value)(F:M Nat)(V:M Value->Array Value:=List.toArray):Prop:=
 ly h w as vs F->F.Nodup->(∀g∈F,g<w.heap.size)->(∀g,w.heap.size<=g->h g=0)->
  Calls P g (V vs) w λe a=>∃v f d c b,e=.returned v/\U3 f v/\ly b a i f d/\ly b a outs (fx as vs) c/\(d++c).Nodup/\(∀g∈d++c,(w.heap.size<=g\/g∈F)/\g<a.heap.size)/\ye h F w a b
def pL(P:Program)(g:FuncId)(as a outs:M A):Prop:=
 ∀(w:World) (h:Nat->Nat) (vs:M Value) (F:M Nat),Ya P w F->Ka P g as a outs w h vs F
def yd(a:World)(b:M Nat)(P:Program)(g:FuncId)(as c outs:M A):Prop:=
 ∀(w:World) (h:Nat->Nat) (vs:M Value) (F:M Nat),a.heap.size<=w.heap.size->(∀g,g<a.heap.size->g∉b->w.heap[g]?=a.heap[g]?)->(∀g∈F,a.heap.size<=g\/g∈b)->Ka P g as c outs w h vs F
def pL.at_{P g as rs outs a io}(h:pL P g as rs outs)(b:Ya P a io):yd a io P g as rs outs:=
 λw k vs F e d c=>h w k vs F (b.step e d c)
def ag6(F:FuncId):M Value->Array Value
 |v::vs=>#[v,.func (.func F) #[] vs.toArray]
 |[]=>#[]
def afX(a:World)(b:M Nat)(P:Program)(C F:FuncId)(as c outs:M A):Prop:=
 ∀(w:World) (h:Nat->Nat) (vs:M Value) (G:M Nat),a.heap.size<=w.heap.size->(∀g,g<a.heap.size->g∉b->w.heap[g]?=a.heap[g]?)->(∀g∈G,a.heap.size<=g\/g∈b)->Ka P C as c outs w h vs G (ag6 F)
def uK(w:World):M D->M Value->M Fp->Prop
 |[],vs,b=>vs=[]/\b=[]
 |d::e,vs,b=>∃v c F a,vs=v::c/\b=F::a/\Rp w d v F/\uK w e c a
def YD(P:Program)(k:FuncId)(j:Bool)(f:M D)(q:Int)(d:M D)(b:Int)(w:World)(h:Nat->Nat)(v:Value)(vs:M Value)(a:M Fp):Prop:=
 uK w f vs a->(j=I->v=.agg vs.toArray)->(j=J->vs=[v])->IntKind.i64.wrap q=q->(a.flatten.map fS).Nodup->(∀G∈a,∀i∈G,h i.1=0/\vj w i.1)->(∀g,w.heap.size<=g->h g=0)->
  Calls P k #[v,.int .i64 q] w λe c=>e=.returned (.int .i64 b)/\IntKind.i64.wrap b=b/\uK c d vs a/\d.map D.plain=f.map D.plain/\ye h (a.flatten.map fS) w c h
def Ql(P:Program)(f:FuncId)(e:Bool)(d:M D)(q:Int)(b:M D)(c:Int):Prop:=
 ∀(w:World) (h:Nat->Nat) (v:Value) (vs:M Value) (a:M Fp),Ya P w (a.flatten.map fS)->YD P f e d q b c w h v vs a
def Eo(a:World)(b:M Nat)(P:Program)(j:FuncId)(i:Bool)(f:M D)(q:Int)(d:M D)(e:Int):Prop:=
 ∀(w:World) (h:Nat->Nat) (v:Value) (vs:M Value) (c:M Fp),a.heap.size<=w.heap.size->(∀g,g<a.heap.size->g∉b->w.heap[g]?=a.heap[g]?)->(∀g∈c.flatten.map fS,a.heap.size<=g\/g∈b)->YD P j i f q d e w h v vs c
def Ql.at_{P i g f c q e a io}(h:Ql P i g f q c e)(j:Ya P a io):Eo a io P i g f q c e:=
 λw k v vs o n m l=>h w k v vs o (j.step n m l)
def RL{d j i}(h:j≠i):vg d j≠vg d i:=by unfold vg;omega
section
variable {h0:Nat->Nat} {io:M Nat} {w0:World} {f:Fm} {w:World}
theorem Inv.ae2{γ s}(a:Inv γ h0 io w0 s f w)d c(j:CR γ w c (f d)):Inv γ h0 io w0 (s.put (Z d) c) f w:=
 {a with
  sl:=λe i h=>by
   simp[St.put,look]at h;by_cases g:d=e
   .simp_all
   .rw[if_neg g]at h;exact a.sl e i h }
theorem sF.slice{h x v F}(a:sF h w x v F):∃A n c,v=.slice A n c:=by obtain⟨A,n,c,b,_⟩:=a;exact⟨A,n,c,b⟩
theorem mY{d}:∀(vs) {us F} (j) {γ s},Inv γ h0 io w0 s f w->jN γ.h w vs us F->F.Nodup->(∀g∈F,(γ.ω g=.free\/γ.ω g=.fI)/\g<w.heap.size/\(w0.heap.size<=g\/g∈io))->
  ∃a,Inv a h0 io w0 (er d j vs s).2 f w/\gY a w (er d j vs s).1 us/\a.β=γ.β/\a.h=γ.h/\(∀g,g∉F->a.ω g=γ.ω g)/\∀q,(∀i,j<=i->q≠vg d i)->a.sl q=γ.sl q
 |[],us,F,j,γ,s,c,b,_,_=>by obtain⟨rfl,rfl⟩:=b;exact⟨γ,c,by simp[er,gY],rfl,rfl,λ_ _=>rfl,λ_ _=>rfl⟩
 | .d x::vs,us,F,j,γ,s,c,b,m,o=>by obtain⟨v,y,D,X,rfl,rfl,⟨rfl,G,K,R⟩,b⟩:=b;obtain⟨a,t,c1,A,k,l,L⟩:=mY vs (j+1) c b (by simpa using m) (by simpa using o);refine⟨a,t,?_,A,k,by simpa using l,λq n=>L q (λi c=>n i (by omega))⟩;simp only[er];exact⟨v,y,rfl,by simp[CR];exact⟨G,K,by rw[k];exact R⟩,c1⟩
 | .row x::vs,us,F,j,γ,s,c,b,m,o=>by obtain⟨v,y,D,X,rfl,rfl,⟨C,Y⟩,b⟩:=b;rw[cD]at m;obtain⟨_,W,H⟩:=m;obtain⟨oY,t,p,A,k,l,N⟩:=c.yi (r:=vg d j) C Y (λg e=>by have:=o g (by simp[e]);exact⟨by rcases this.1 with h|h<;>simp[h],this.2⟩);obtain⟨Q,i2,U,V,T,P,B⟩:=mY vs (j+1) t (by rw[k];exact b) W (λg e=>by have S:g∉D:=λh=>H g h g e rfl;rw[l g S];exact o g (by simp[e]));refine⟨Q,i2,?_,V.trans A,T.trans k,λg e=>?_,λq n=>?_⟩;{simp only[er];refine⟨v,y,rfl,?_,U⟩;simp[CR];rw[B (vg d j) (λi c=>RL (by omega)),p];exact⟨rfl,C.slice⟩};{simp at e;rw[P g e.2,l g e.1]};rw[B q (λi c=>n i (by omega)),N q (n j (aH _))]
theorem tW{d}:∀(vs) {us F} (j) {γ s},Inv γ h0 io w0 s f w->jN γ.h w vs us F->F.Nodup->(∀g∈F,(γ.ω g=.free\/γ.ω g=.fI)/\g<w.heap.size/\(w0.heap.size<=g\/g∈io))->
  ∃a,Inv a h0 io w0 (er d j vs s).2 f w/\(∀k,k.h=a.h->(∀i,j<=i->i<j+vs.length->k.sl (vg d i)=a.sl (vg d i))->gY k w (er d j vs s).1 us)/\a.β=γ.β/\a.h=γ.h/\(∀g,g∉F->a.ω g=γ.ω g)/\∀q,(∀i,j<=i->q≠vg d i)->a.sl q=γ.sl q
 |[],us,F,j,γ,s,c,b,_,_=>by obtain⟨rfl,rfl⟩:=b;exact⟨γ,c,λ_ _ _=>by simp[er,gY],rfl,rfl,λ_ _=>rfl,λ_ _=>rfl⟩
 | .d x::vs,us,F,j,γ,s,c,b,n,p=>by obtain⟨v,H,P,F2,rfl,rfl,⟨rfl,G,R,V⟩,b⟩:=b;obtain⟨a,B,c1,K,l,m,S⟩:=tW vs (j+1) c b (by simpa using n) (by simpa using p);refine⟨a,B,λk y t=>?_,K,l,by simpa using m,λq o=>S q (λi c=>o i (by omega))⟩;simp only[er];exact⟨v,H,rfl,by simp[CR];exact⟨G,R,by rw[y,l];exact V⟩,c1 k y (λi D C=>t i (by omega) (by simp;omega))⟩
 | .row x::vs,us,F,j,γ,s,c,b,n,p=>by obtain⟨v,H,P,F2,rfl,rfl,⟨N,Ai⟩,b⟩:=b;rw[cD]at n;obtain⟨_,Oo,Q⟩:=n;obtain⟨oY,B,A,K,l,m,T⟩:=c.yi (r:=vg d j) N Ai (λg e=>by have:=p g (by simp[e]);exact⟨by rcases this.1 with h|h<;>simp[h],this.2⟩);obtain⟨k,i2,W,X,D,U,L⟩:=tW vs (j+1) B (by rw[l];exact b) Oo (λg e=>by have C:g∉P:=λh=>Q g h g e rfl;rw[m g C];exact p g (by simp[e]));refine⟨k,i2,λY y t=>?_,X.trans K,D.trans l,λg e=>?_,λq o=>?_⟩;{simp only[er];refine⟨v,H,rfl,?_,W Y y (λi D C=>t i (by omega) (by simp;omega))⟩;simp[CR];rw[t j (aH _) (by simp),L (vg d j) (λi c=>RL (by omega)),A];exact⟨rfl,N.slice⟩};{simp at e;rw[U g e.2,m g e.1]};rw[L q (λi c=>o i (by omega)),T q (o j (aH _))]
theorem jN.length{h}:∀{vs b F},jN h w vs b F->b.length=vs.length
 |[],_,_,a=>by simp[jN]at a;simp[a.1]
 |_::_,_,_,a=>by obtain⟨v,c,e,d,rfl,rfl,_,a⟩:=a;simp[jN.length a]
theorem BM{γ a v}(h:gY γ w a [v]):CR γ w (a.headD .any) v:=by cases a with|nil=>{simp[gY]at h}|cons c a=>obtain⟨d,g,e,b,_⟩:=h;simp at e;rw[e.1];exact b
theorem FJ{p}:∀vs j s,C.jU (900+p) (er (p+1400) j vs s).1=(er (p+1400) j vs s).1
 |[],j,s=>by simp[er,C.jU]
 | .d x::vs,j,s=>by simp[er,C.jU,C.kill,FJ vs (j+1) s]
 | .row x::vs,j,s=>by (have h:vg (p+1400) j≠900+p:=by unfold vg;omega);simp[er,C.jU,C.kill,FJ vs (j+1),if_neg h]
theorem vw:∀(as) {vs F} (p) {γ s},Inv γ h0 io w0 s f w->ly γ.h w as vs F->F.Nodup->(∀g∈F,(γ.ω g=.free\/γ.ω g=.fI)/\g<w.heap.size/\(w0.heap.size<=g\/g∈io))->(∀i v,vs[i]?=Z v->f (p+i)=v)->
  ∃e,Inv e h0 io w0 (lQ p as s) f w/\e.h=γ.h/\(∀q,q<p->e.β (900+q)=γ.β (900+q))/\∀i k g,as[i]?=Z (.box k)->vs[i]?=Z (.pointer (Z ⟨g,0,O⟩))->e.β (900+(p+i))=g
 |[],vs,F,p,γ,s,t,_,_,_,_=>⟨γ,t,rfl,λ_ _=>rfl,λi k g h=>by simp at h⟩
 | .val ag k::as,vs,F,p,γ,s,t,l,r,n,A=>by obtain⟨v,fq,F1,F2,rfl,rfl,⟨X,H,ha,hb⟩,l⟩:=l;rw[cD]at r;obtain⟨W,V,D⟩:=r;obtain⟨oY,N,c1,S,o,G,_⟩:=mY (d:=p) k 0 t H W (λg m=>n g (by simp[m]));(have c:f p=v:=by simpa using A 0 v rfl);have i2:Inv oY h0 io w0 (Bx p (.val ag k) s) f w:=by{refine N.ae2 p _ ?_;cases ag with|true=>{rw[c,ha rfl];simp;exact⟨X,rfl,c1⟩}|false=>rw[c];simp only[aQ];rw[hb rfl]at c1;exact BM c1};obtain⟨K,i3,B,p3,x3⟩:=vw as (p+1) i2 (by rw[o];exact l) V (λg m=>by have B:g∉F1:=λh=>D g h g m rfl;rw[G g B];exact n g (by simp[m])) (λi a Q=>by rw[show p+1+i=p+(i+1) from by omega];exact A (i+1) a (by simpa using Q));refine⟨K,i3,B.trans o,λq hq=>by rw[p3 q (by omega),S],λi L g j C=>?_⟩;cases i with|zero=>{simp at j}|succ i=>have:=x3 i L g (by simpa using j) (by simpa using C);rw[show p+(i+1)=p+1+i from by omega];exact this
 | .box k::as,vs,F,p,γ,s,t,l,r,n,A=>by obtain⟨v,fq,F1,F2,rfl,rfl,⟨g,T,X,F',rfl,hB,D6,rfl,H⟩,l⟩:=l;rw[cD]at r;obtain⟨W,V,D⟩:=r;obtain⟨R,U⟩:=cW.1 W;obtain⟨oY,N,c1,S,o,G,_⟩:=mY (d:=p+1400) k 0 t H U (λg m=>n g (by simp[m]));have c:=A 0 _ rfl;rw[dY]at c;have x:=n g (by simp);obtain⟨K,i2,j2,k2,l2,m2,w2⟩:=N.Kd (b:=900+p) hB (by rw[G g R];exact x.1) x.2.2 (by rw[o];exact D6) c1;rw[FJ]at i2;have i3:Inv K h0 io w0 (Bx p (.box k) s) f w:=i2.ae2 p (.ptr (900+p) 0) (by rw[c];simp[CR]);obtain⟨Qb,i4,h4,Y,x4⟩:=vw as (p+1) i3 (by rw[l2,o];exact l) V (λy P=>by have B:y∉F':=λh=>D y (by simp[h]) y P rfl;have h5:y≠g:=λh=>D y (by simp[h]) y P rfl;rw[w2 y h5,G y B];exact n y (by simp[P])) (λi a Q=>by rw[show p+1+i=p+(i+1) from by omega];exact A (i+1) a (by simpa using Q));refine⟨Qb,i4,h4.trans (l2.trans o),λq hq=>by rw[Y q (by omega),k2 _ (by omega),S],λi L g' j C=>?_⟩;cases i with|zero=>{simp at C;rw[Y _ (by omega),dY,j2,C]}|succ i=>have:=x4 i L g' (by simpa using j) (by simpa using C);rw[show p+(i+1)=p+1+i from by omega];exact this
theorem zk{γ s}(K:Inv γ h0 io w0 s f w):∀(cs) {vs rs},gY γ w cs vs->ig (kN s) cs=Z rs->
  ∃F,jN γ.h w rs vs F/\(∀g∈F,∃r∈rowsOf cs,γ.ω g=.row r)/\((rowsOf cs).Nodup->F.Nodup)
 |[],vs,rs,A,i=>by cases i;cases A;exact⟨[],by simp[jN],λ_ h=>by simp at h,λ_=>by simp⟩
 |c::cs,vs,rs,A,i=>by obtain⟨v,D,rfl,l,S⟩:=A;simp[ig]at i;split at i;{rename_i y m;simp at i;obtain⟨U,i,rfl⟩:=i;obtain⟨F,C,o,B⟩:=zk K cs S i;cases c with|d x=>{cases m;simp[CR]at l;refine⟨F,?_,by simpa [rowsOf] using o,by simpa [rowsOf] using B⟩;simp only[jN];exact⟨v,D,[],F,rfl,rfl,⟨rfl,l⟩,C⟩}|nil k T=>{cases m;simp[CR]at l;refine⟨F,?_,by simpa [rowsOf] using o,by simpa [rowsOf] using B⟩;simp only[jN];exact⟨v,D,[],F,rfl,rfl,⟨⟨O,0,0,l.1,rfl,aH _,by simp,l.2,λ_ h=>by simp at h,λ_=>kR,.inl ⟨rfl,rfl,rfl⟩⟩,by simp⟩,C⟩}|ref r=>{simp[kN]at m;obtain⟨x,N,rfl⟩:=m;simp[CR]at l;obtain⟨L,R,H,G⟩:=K.rw r x N;refine⟨L++F,?_,λg n=>?_,λt=>?_⟩;{simp only[jN];exact⟨v,D,L,F,rfl,rfl,⟨by rw[l.1];exact R,H⟩,C⟩};{rcases aX.1 n with n|n;{exact⟨r,by simp[rowsOf],G g n⟩};obtain⟨q,p,j⟩:=o g n;exact⟨q,by simp[rowsOf,p],j⟩};simp[rowsOf]at t;rw[cD];refine⟨H,B t.2,?_⟩;intro a Q b P e;subst e;obtain⟨q,p,j⟩:=o a P;rw[G a Q]at j;cases j;exact t.1 p}|_=>simp[kN]at m};cases i
end
end
section
open Go.RowKit
section
variable {h0:Nat->Nat} {io:M Nat} {w0:World} {f:Fm} {w:World}
theorem Dd(s:St)r x:(s.dL r).setRow r x=s.setRow r x:=by simp[St.setRow,St.dL,JC]
theorem Inv.share1{γ s}(hi:Inv γ h0 io w0 s f w){r x}(hl:look s.rw r=Z x):
  ∃a G,Inv a h0 io w0 (s.setRow r x.share) f w/\a.β=γ.β/\a.sl=γ.sl/\(∀g,γ.h g<=a.h g)/\Rp w (.list x.k x.fl x.es) (γ.sl r) G/\dW a.h G/\∀g,a.ω g=γ.ω g\/a.ω g=.fI\/a.ω g=.free\/a.ω g=.row r:=by
 obtain⟨j,A,n,c,i2,T,AS,L,o2,l2,D,C,B,t,q,p,l,q8⟩:=hi.AF hl;have K:∀g,j.ω g=γ.ω g\/j.ω g=.fI:=λg=>by rcases jo (γ.ω g=.row r) with h|h;{exact .inr (l2 g h)};exact .inl (o2 g h)
 rcases q8 with ⟨rfl,rfl⟩|⟨g,o,xs,G,rfl,a2,a3,a4,a5,Q,a7,V,a9,xw,W,a12⟩
 .have hR:sF j.h w x.share (j.sl r) []:=⟨O,n,0,by rw[AS];exact D,C,B,t,q,p,l,.inl ⟨rfl,rfl,rfl⟩⟩
  obtain⟨a,h2,h3,h4,h5,h6⟩:=i2.setRow (r:=r) hR (by simp) (λ_ h=>by simp at h);rw[Dd]at h2;refine⟨a,[],h2,h4.trans T,h3.trans AS,λg=>by rw[h5,L];exact aH _,?_,λ_ h=>by simp at h,λg=>?_⟩
  .simp only[Rp];exact⟨O,n,0,D,C,B,t,l,q,p,.inl ⟨by omega,trivial⟩⟩
  .rcases h6 g with h|h
   .rw[h];rcases K g with h'|h'
    .exact .inl h'
    .exact .inr (.inl h')
   .exact .inr (.inr (.inr h))
 .have i3:=i2.settle (h':=λy=>if y=g then o+n * x.k else j.h y) (ω':=j.ω) (λy=>by
    split
    .rename_i e;subst e;rw[L];exact V
    .exact aH _)
   (λy m=>by
    have e:y=g:=by rcases jo (y=g) with h|h;{exact h};exact absurd (by simp[h]) m
    subst e;have ho:=i2.own y (by rw[a4];simp);exact⟨ho.1,ho.2,λ_ _ _=>by rw[a4];simp,λ_ _ _=>by rw[a4];simp⟩)
   (λy=>.inl rfl)
   (λy b m=>by
    by_cases e:y=g
    .subst e;rw[a4]at m;cases m
    .simp only[if_neg e];exact i2.nJ y b m)
  have U:∀y,y≠g->HP j w y->HP {j with h:=λy=>if y=g then o+n * x.k else j.h y,ω:=j.ω } w y:=λy m S=>⟨S.1,by simp only[if_neg m];exact S.2.1,S.2.2⟩
  obtain⟨i,i4,X,b4,Y,g4,w4⟩:=i3.wH (r:=r) (x:=x.share) (n:=n) (c:=c) (g:=g) (o:=o) C B t q p l a2 (.inl a4) (i2.own g (by rw[a4];simp)).2 a5 Q a7 (by simp only[if_true];exact aH _) (λh=>by cases h) xw
   (λP F=>by
    rcases W P F with h|⟨h,iH⟩
    .by_cases e:P.1=g
     .simp only[if_pos e];rw[e]at h;exact .inl (aS h V)
     .simp only[if_neg e];rw[L];exact .inl h
    .exact .inr ⟨U _ iH h,iH⟩)
   (λN=>by
    have:G=[]:=Q.plain (l N);subst this;simp)
   (by show j.sl r=_;rw[AS];exact D)
  rw[Dd]at i4;have mono:∀y,γ.h y<=i.h y:=λy=>by refine aS ?_ (Y y);show γ.h y<=if y=g then o+n * x.k else j.h y;split;{rename_i e;subst e;exact V};rw[L];exact aH _
  have R:o+n * x.k<=i.h g:=by have:=Y g;simpa using this
  have jt:dW i.h G:=by cases N:x.fl with|true=>{have:G=[]:=Q.plain (l N);subst this;exact λ_ h=>by simp at h}|false=>exact g4 N
  have H:∀g,i.ω g=γ.ω g\/i.ω g=.fI\/i.ω g=.free\/i.ω g=.row r:=λy=>by rcases w4 y with h|h|h;{rw[h];rcases K y with h'|h';{exact .inl h'};exact .inr (.inl h')};{exact .inr (.inr (.inl h))};exact .inr (.inr (.inr h))
  by_cases hn:n=0
  .refine⟨i,[],i4,b4.trans T,X.trans AS,mono,?_,λ_ h=>by simp at h,H⟩;simp only[Rp];exact⟨_,n,c,D,C,B,t,l,q,p,.inl ⟨hn,trivial⟩⟩
  .refine⟨i,(g,o+n * x.k)::G,i4,b4.trans T,X.trans AS,mono,?_,λP F=>?_,H⟩
   .simp only[Rp];exact⟨_,n,c,D,C,B,t,l,q,p,.inr ⟨by omega,g,o,xs,G,rfl,rfl,Q,a7⟩⟩
   .rcases aU.1 F with rfl|F
    .exact R
    .exact jt P F
theorem C8(s:St)r q x:look (s.setRow r x).rw q=if r=q then Z x else look s.rw q:=by simp[St.setRow,look,fL];split<;>rfl
theorem Inv.zf:∀(rs) {γ s},Inv γ h0 io w0 s f w->
  ∃a,Inv a h0 io w0 (eM s rs) f w/\a.β=γ.β/\a.sl=γ.sl/\(∀g,γ.h g<=a.h g)/\(∀r∈rs,∀x,look s.rw r=Z x->∃G,Rp w (.list x.k x.fl x.es) (γ.sl r) G/\dW a.h G)/\
   (∀g,a.ω g=γ.ω g\/a.ω g=.fI\/a.ω g=.free\/∃r∈rs,a.ω g=.row r)/\(eM s rs).sl=s.sl/\(eM s rs).bx=s.bx/\∀q,q∉rs->look (eM s rs).rw q=look s.rw q
 |[],γ,s,m=>⟨γ,m,rfl,rfl,λ_=>aH _,λ_ h=>by simp at h,λ_=>.inl rfl,rfl,rfl,λ_ _=>rfl⟩
 |r::rs,γ,s,m=>by cases j:look s.rw r with|none=>{obtain⟨a,t,K,l,p,V,n,F,D,C⟩:=Inv.zf rs m;(have H:eM s (r::rs)=eM s rs:=by simp[eM,j]);rw[H];refine⟨a,t,K,l,p,λq c x B=>?_,λg=>?_,F,D,λq c=>C q (λh=>c (by simp[h]))⟩;{rcases aU.1 c with rfl|c;{rw[j]at B;cases B};exact V q c x B};rcases n g with h|h|h|⟨q,c,h⟩;{exact .inl h};{exact .inr (.inl h)};{exact .inr (.inr (.inl h))};exact .inr (.inr (.inr ⟨q,by simp[c],h⟩))}|some x=>obtain⟨Y,G,t,K,l,p,o,L,n⟩:=m.share1 j;obtain⟨R,i2,W,Q,N,U,P,F,D,C⟩:=Inv.zf rs t;(have H:eM s (r::rs)=eM (s.setRow r x.share) rs:=by simp[eM,j]);rw[H];refine⟨R,i2,W.trans K,Q.trans l,λg=>aS (p g) (N g),λq c y A=>?_,λg=>?_,F,D,λq c=>?_⟩;{by_cases e:q=r;{subst e;rw[j]at A;cases A;exact⟨G,o,L.mono N⟩};rcases aU.1 c with c|c;{exact absurd c e};obtain⟨X,T,S⟩:=U q c y (by rw[C8,if_neg (ov e)];exact A);exact⟨X,by rw[<- l];exact T,S⟩};{rcases P g with h|h|h|⟨q,c,h⟩;{rw[h];rcases n g with i|i|i|i;{exact .inl i};{exact .inr (.inl i)};{exact .inr (.inr (.inl i))};exact .inr (.inr (.inr ⟨r,by simp,i⟩))};{exact .inr (.inl h)};{exact .inr (.inr (.inl h))};exact .inr (.inr (.inr ⟨q,by simp[c],h⟩))};simp at c;rw[C q c.2,C8,if_neg (ov c.1)]
theorem uu:∀l,k8 l=I↔l.Nodup
 |[]=>by simp[k8]
 |x::l=>by simp[k8,uu l]
theorem UT{s S}:∀a,(∀r∈rowsOf a,look S.rw r=look s.rw r)->ig (kN S) a=ig (kN s) a
 |[],_=>rfl
 |c::a,h=>by have b:=UT (s:=s) (S:=S) a (λr d=>h r (by cases c<;>simp[rowsOf,d]));simp[ig,b];cases c with|ref r=>{simp only[kN,h r (by simp[rowsOf])]}|_=>rfl
theorem US{s}:∀{a b},ig (kN s) a=Z b->a.all C.cell=I
 |[],_,_=>rfl
 |c::a,b,h=>by simp[ig]at h;split at h;simp at h;obtain⟨e,h,_⟩:=h;have d:=US h;cases c<;>simp_all[kN,C.cell];cases h
theorem AN{s}:∀{a b},ig (n6 s) a=Z b->a.all C.cell=I
 |[],_,_=>rfl
 |c::a,b,h=>by simp[ig]at h;split at h;simp at h;obtain⟨e,h,_⟩:=h;have d:=AN h;cases c<;>simp_all[n6,C.cell];cases h
theorem aca{i m:Gh}{s}{n:M Nat}(o:∀g,i.h g<=m.h g)(q:∀r∈n,∀x,look s.rw r=Z x->∃G,Rp w (.list x.k x.fl x.es) (i.sl r) G/\dW m.h G):
  ∀(cs) {vs rs},gY i w cs vs->ig (n6 s) cs=Z rs->(∀r∈rowsOf cs,r∈n)->jN m.h w rs vs []
 |[],vs,rs,e,h,_=>by cases h;simp[gY]at e;simp[jN,e]
 |c::cs,vs,rs,e,h,p=>by obtain⟨v,C,rfl,a,D⟩:=e;simp[ig]at h;split at h;{rename_i y b;simp at h;obtain⟨H,h,rfl⟩:=h;have t:=aca o q cs D h (λr B=>p r (by cases c<;>simp[rowsOf,B]));refine⟨v,C,[],[],rfl,rfl,?_,t⟩;cases c with|d x=>{cases b;obtain⟨G,l,j⟩:=a;exact⟨rfl,G,l,j.mono o⟩}|nil k F=>{cases b;simp[CR]at a;refine⟨rfl,[],?_,λ_ h=>by simp at h⟩;simp only[Rp];exact⟨O,0,0,a.1,rfl,aH _,by simp,λ_=>kR,a.2,λ_ h=>by simp at h,.inl ⟨rfl,trivial⟩⟩}|ref r=>{simp[n6]at b;obtain⟨x,A,rfl⟩:=b;simp[CR]at a;obtain⟨G,l,j⟩:=q r (p r (by simp[rowsOf])) x A;exact⟨rfl,G,by rw[a.1];exact l,j⟩}|_=>simp[n6]at b};cases h
theorem Ez{γ i s S}{R:M Nat}(W:Inv i h0 io w0 S f w)(hb:i.β=γ.β)(mW:i.sl=γ.sl)(K:∀g,γ.h g<=i.h g)(Yg:S.bx=s.bx)(hG:∀r∈R,∀x,look s.rw r=Z x->∃G,Rp w (.list x.k x.fl x.es) (γ.sl r) G/\dW i.h G)
  (L:∀q,q∉R->look S.rw q=look s.rw q):∀(cs) {vs as},gY γ w cs vs->xL s cs=Z as->(∀r∈iq cs,r∈R)->(∀r∈dx s cs,r∉R)->(dx s cs).Nodup->(cG cs).Nodup->
   ∃F,ly i.h w as vs F/\F.Nodup/\(∀g∈F,(∃r∈dx s cs,i.ω g=.row r)\/∃b∈cG cs,i.ω g=.box b/\g=i.β b)/\∀b∈cG cs,Value.pointer (Z ⟨i.β b,0,O⟩)∈fx as vs
 |[],vs,as,V,h,_,_,_,_=>by cases h;simp only[gY]at V;exact⟨[],by simp[ly,V],by simp,λ_ h=>by simp at h,λ_ h=>by simp[cG]at h⟩
 |c::cs,vs,as,V,h,hl,n,uO,B=>by obtain⟨v,fq,rfl,hv,Ik⟩:=V;simp only[xL]at h;split at h;{rename_i a p;simp at h;obtain⟨Nc,h,rfl⟩:=h;simp only[iq,dx]at hl n uO;rw[cD]at uO;obtain⟨Ai,Oo,D⟩:=uO;have aqU:(cG cs).Nodup:=by{cases c<;>simp_all[cG]};obtain⟨X,r2,d2,U,p2⟩:=Ez W hb mW K Yg hG L cs Ik h (λr d=>hl r (by simp[d])) (λr d=>n r (by simp[d])) Oo aqU;have TG:CR i w c v:=hv.mono (γ':=i) K (λ_ _ _=>rfl) hb mW c;unfold Sd at p;split at p;{rename_i b;split at p;{rename_i Yb P;simp at p;obtain⟨rs,A,rfl⟩:=p;(have H:oG s (.ptr b 0)=rowsOf Yb:=by simp[oG,P]);rw[H]at n Ai D;obtain⟨T,us,k1,k2,t⟩:=W.bx b Yb (by rw[Yg];exact P);rw[<- UT (S:=S) _ (λr d=>L r (n r (by simp[d])))]at A;obtain⟨F1,x1,Y,x3⟩:=zk W _ k2 A;simp only[CR]at TG;simp only[cG,cW]at B;refine⟨(i.β b::F1)++X,?_,?_,λg o=>?_,λQ j=>?_⟩;{simp;refine⟨v,fq,i.β b::F1,X,rfl,rfl,?_,r2⟩;simp only[AR];exact⟨_,T,us,F1,TG,k1,W.nJ _ b t,rfl,x1⟩};{rw[cD];refine⟨cW.2 ⟨λK=>?_,x3 Ai⟩,d2,?_⟩;{obtain⟨r,_,d⟩:=Y _ K;rw[t]at d;cases d};intro x hx y hy e;subst e;rcases aU.1 hx with rfl|hx;{rcases U _ hy with ⟨q,hq,m⟩|⟨Q,j,m,_⟩;{rw[t]at m;cases m};rw[t]at m;cases m;exact B.1 j};obtain⟨r,d,l⟩:=Y x hx;rcases U x hy with ⟨q,hq,m⟩|⟨Q,j,m,_⟩;{rw[l]at m;cases m;exact D _ d _ hq rfl};rw[l]at m;cases m};{rcases aX.1 o with o|o;{rcases aU.1 o with rfl|o;{exact .inr ⟨b,by simp[cG],t,rfl⟩};obtain⟨r,d,l⟩:=Y g o;exact .inl ⟨r,by simp only[dx,aX,H];exact .inl d,l⟩};rcases U g o with ⟨r,d,l⟩|⟨Q,j,l⟩;{exact .inl ⟨r,by simp only[dx,aX];exact .inr d,l⟩};exact .inr ⟨Q,by simp[cG,j],l⟩};simp only[cG,aU]at j;simp only[fx,aU];rcases j with rfl|j;{exact .inl TG.symm};exact .inr (p2 Q j)};cases p};rename_i hnp;simp at p;obtain⟨rs,A,rfl⟩:=p;obtain⟨k1,k2,t⟩:=hv.cells (AN A);have x1:=aca K hG _ k1 A (λr d=>hl r (by simp[d]));have N:cG (c::cs)=cG cs:=by{have C4:=AN A;cases c<;>simp_all[cG,C.cells,C.cell]};refine⟨X,?_,d2,λg o=>?_,λb j=>?_⟩;{simp only[ly];refine⟨v,fq,[],X,rfl,rfl,?_,r2⟩;simp only[AR];refine⟨_,x1,λFh=>?_,λFh=>by rw[k2 Fh]⟩;obtain⟨us,rfl⟩:=t Fh;simp[Value.cells]};{rw[N];rcases U g o with ⟨r,d,l⟩|l;{exact .inl ⟨r,by simp only[dx,aX];exact .inr d,l⟩};exact .inr l};rw[N]at j;simp only[fx];exact p2 b j};cases h
theorem Nt{γ a s}{l:M Nat}(p:∀g,γ.h g<=a.h g)(i:a.β=γ.β)(m:a.sl=γ.sl)(q:∀r∈l,∀x,look s.rw r=Z x->∃G,Rp w (.list x.k x.fl x.es) (γ.sl r) G/\dW a.h G):
  ∀{j vs},(∀r∈rowsOf j,r∈l)->gY γ w j vs->gY a w (j.map (QA s)) vs
 |[],vs,_,h=>by simpa only [cO,gY] using h
 |c::j,vs,o,h=>by obtain⟨v,C,rfl,b,y⟩:=h;simp;refine⟨v,C,rfl,?_,Nt p i m q (λr n=>o r (by cases c<;>simp_all[rowsOf])) y⟩;have d:CR a w c v:=CR.mono p (λ_ _ _=>rfl) i m c b;cases c with|ref r=>{simp[QA];split;{rename_i x n;obtain⟨G,B,A⟩:=q r (o r (by simp[rowsOf])) x n;simp[CR]at b ⊢;rw[b.1];exact⟨G,B,A⟩};exact d}|nil k D=>{simp[CR]at b;simp[QA];exact⟨[],by simp only[Rp];exact⟨O,0,0,b.1,rfl,aH _,by simp,λ_=>kR,b.2,λe t=>by simp at t,.inl ⟨rfl,trivial⟩⟩,λF i=>by simp at i⟩}|_=>exact d
theorem Inv.sI{γ s F d}(j:Inv γ h0 io w0 s f w)(i:Proofs.YtbnmicpicjmgiaaGreatDoor.sI s d=Z F):∃a,Inv a h0 io w0 F f w/\a.β=γ.β/\∀g,γ.h g<=a.h g:=by unfold Proofs.YtbnmicpicjmgiaaGreatDoor.sI at i;split at i;{rename_i r m;split at i;{rename_i x q;cases i;obtain⟨a,p,o,D,t,y,_⟩:=j.zf [r];obtain⟨G,L,K⟩:=y r (by simp) x q;have c:=j.get d;rw[m]at c;simp[CR]at c;exact⟨a,p.ae2 d _ (by simp[CR];rw[c.1];exact⟨G,L,K⟩),o,t⟩};cases i};{rename_i k S m;cases i;have c:=j.get d;rw[m]at c;simp[CR]at c;exact⟨γ,j.ae2 d _ (by simp[CR];exact⟨[],by simp only[Rp];exact⟨O,0,0,c.1,rfl,aH _,by simp,λ_=>kR,c.2,λe n=>by simp at n,.inl ⟨rfl,trivial⟩⟩,λU H=>by simp at H⟩),rfl,λ_=>aH _⟩};{rename_i b m;split at i;{rename_i B q;cases i;obtain⟨T,vs,hB,P,R⟩:=j.bx b B q;obtain⟨a,p,o,D,t,y,_,_,A,_⟩:=j.zf (rowsOf B);obtain⟨V,Q,l,N,C⟩:=p.bx b B (by rw[A];exact q);have c:Q=vs:=by{rw[o]at l;have n:=hO (l.symm.trans hB);(injection n with n);simpa using congrArg Array.toList n};exact⟨a,p.gB l C (c▸Nt t o D y (λr m=>m) P),o,t⟩};cases i;exact⟨γ,j,rfl,λ_=>aH _⟩};cases i;exact⟨γ,j,rfl,λ_=>aH _⟩
end
end
section
open Go.RowKit
section
variable {h0:Nat->Nat} {io:M Nat} {w0:World} {f:Fm} {w:World}
theorem Inv.after{γ s}(p:Inv γ h0 io w0 s f w){D h'}{F mv bs:M Nat}{A}(m:ye D F w A h')(K:∀g,γ.h g<=D g)(Q:∀g∈F,(∃r∈mv,γ.ω g=.row r)\/∃b∈bs,γ.ω g=.box b)(S:∀r∈mv,look s.rw r=O)(U:∀b∈bs,look s.bx b=O)
  (L:∀g∈F,∀b,γ.ω g=.box b->h' g=0) :
  Bg γ (λo=>(∃r∈mv,o=.row r)\/∃b∈bs,o=.box b) w A/\
  ∃c,Inv c h0 io w0 s f A/\c.β=γ.β/\c.sl=γ.sl/\(∀g,γ.h g<=c.h g)/\(∀g,g<w.heap.size->g∉F->c.h g=γ.h g)/\(∀g,w.heap.size<=g\/g∈F->c.h g=h' g)/\(∀g∈F,(∃r∈mv,γ.ω g=.row r)->c.ω g=.fI)/\(∀g b,γ.ω g=.box b->c.ω g=.box b)/\(∀g,w.heap.size<=g->c.ω g=.free):=by
 have y:∀g∈F,(∃r∈mv,γ.ω g=.row r)\/∃b∈bs,γ.ω g=.box b:=Q;have R:Bg γ (λo=>(∃r∈mv,o=.row r)\/∃b∈bs,o=.box b) w A:={
  os:=m.os,tape:=m.tape,output:=m.output,size:=m.size
  block:=λg a T=>m.block g a (λB=>T (y g B))
  cell:=λg j Y=>by have a:g<w.heap.size:=by{rcases dZ g w.heap.size with h|h;{exact h};have:=p.fK g h;omega};exact m.cell g j a (bZ Y (K g))
  jl:=m.jl }
 have X:=p.YI R (by rintro (⟨r,_,h⟩|⟨b,_,h⟩)<;>cases h) (λb h=>by
   rcases h with ⟨r,_,h⟩|⟨P,H,h⟩
   .cases h
   .cases h;exact U b H) (λr h=>by
   rcases h with ⟨r',G,h⟩|⟨P,_,h⟩
   .cases h;exact S r G
   .cases h)
 have t:∀g∈F,(∀b N,look s.bx b=Z N->γ.ω g≠.box b)/\∀r x,look s.rw r=Z x->γ.ω g≠.row r:=by intro g a;rcases y g a with ⟨r,G,h⟩|⟨b,H,h⟩;{refine⟨λb N _=>by rw[h];simp,λq x C=>?_⟩;rw[h];intro e;cases e;rw[S r G]at C;cases C};refine⟨λP N C=>?_,λq x _=>by rw[h];simp⟩;rw[h];intro e;cases e;rw[U b H]at C;cases C
 refine⟨R,?_⟩;have i2:=X.settle (h':=λg=>if g<w.heap.size/\g∉F then γ.h g else h' g) (ω':=λg=>match γ.ω g with | .row r=>if r∈mv/\g∈F then .fI else .row r|o=>o)
  (λg=>by
   split
   .exact aH _
   .rename_i T;rcases dZ g w.heap.size with h|h
    .exact aS (K g) (m.mono g h)
    .rw[p.fK g h];omega)
  (λg a=>by
   by_cases l:g<w.heap.size/\g∉F
   .simp[l]at a
   .simp[if_neg l]at a;rcases dZ g w.heap.size with h|h
    .have B:g∈F:=by
      rcases jo (g∈F) with i|i
      .exact i
      .exact absurd ⟨h,i⟩ l
     have W:γ.ω g≠.free:=by rcases y g B with ⟨r,_,h⟩|⟨b,_,h⟩<;>rw[h]<;>simp
     exact⟨bZ h m.size,(p.own g W).2,t g B⟩
    .have gk:g<A.heap.size:=by
      rcases dZ g A.heap.size with i|i
      .exact i
      .exact absurd (by rw[m.fK g i,p.fK g h]) a
     have V:=p.uF h;exact⟨gk,.inl (aS p.size h),λ_ _ _=>by rw[V];simp,λ_ _ _=>by rw[V];simp⟩)
  (λg=>by
   cases n:γ.ω g with
   |row r=>
    simp only
    by_cases l:r∈mv/\g∈F
    .rw[if_pos l];have:=t g l.2;rw[n]at this;exact .inr ⟨.inr rfl,by simp,this⟩
    .rw[if_neg l];exact .inl rfl
   |_=>exact .inl rfl)
  (λg b a=>by
   have n:γ.ω g=.box b:=by cases n:γ.ω g with|row r=>{rw[n]at a;simp only at a;split at a<;>cases a}|free=>{rw[n]at a;cases a}|fI=>{rw[n]at a;cases a}|box P=>rw[n]at a;exact a
   by_cases l:g<w.heap.size/\g∉F
   .simp[if_pos l];exact p.nJ g b n
   .simp[if_neg l];rcases dZ g w.heap.size with h|h
    .have B:g∈F:=by
      rcases jo (g∈F) with i|i
      .exact i
      .exact absurd ⟨h,i⟩ l
     exact L g B b n
    .rw[p.uF h]at n;cases n)
 refine⟨_,i2,rfl,rfl,λg=>?_,λg D i=>by simp[D,i],λg a=>?_,λg a ⟨r,G,h⟩=>by simp[h,G,a],λg b h=>by simp[h],λg a=>by simp[p.uF a]⟩
 .dsimp only;split
  .exact aH _
  .rcases dZ g w.heap.size with h|h
   .exact aS (K g) (m.mono g h)
   .rw[p.fK g h];omega
 .have l:¬(g<w.heap.size/\g∉F):=by
   rintro⟨D,i⟩
   rcases a with h|h
   .omega
   .exact i h
  simp[if_neg l]
theorem sF.re{h i x v F}(D:sF h w x v F)(e:∀g∈F,i g=h g)(a:x.deep=I\/∀g,h g<=i g):sF i w x v F:=by obtain⟨A,n,c,B,y,t,s,r,q,p,d⟩:=D;refine⟨A,n,c,B,y,t,s,r,q,p,?_⟩;rcases d with d|⟨g,o,m,G,a1,a2,a3,a4,a5,N,L,K,a9,b⟩;{exact .inl d};have k:g∈F:=by{cases hd:x.deep with|true=>{rw[(a9 hd).1];simp}|false=>rw[(b hd).1];simp};refine .inr ⟨g,o,m,G,a1,a2,a3,a4,a5,by rw[e g k];exact N,λC=>by rw[e g k];exact L C,K,λhd=>⟨(a9 hd).1,λj l=>?_⟩,λhd=>⟨(b hd).1,?_⟩⟩;{(have H:j.1∈F:=by rw[(a9 hd).1];simp;exact .inr ⟨j.2,l⟩);rw[e _ H];exact (a9 hd).2 j l};rcases a with a|a;{rw[hd]at a;cases a};exact (b hd).2.mono a
theorem jN.re{h m}:∀{c vs F},jN h w c vs F->(∀g∈F,m g=h g)->(c.all RV.closed=I\/∀g,h g<=m g)->jN m w c vs F
 |[],_,_,b,_,_=>by simpa only [jN] using b
 | .d x::c,_,_,b,e,a=>by simp only[jN]at b ⊢;obtain⟨v,n,p,o,rfl,rfl,⟨rfl,G,i,l⟩,k⟩:=b;refine⟨v,n,[],o,rfl,rfl,⟨rfl,G,i,?_⟩,jN.re k (by simpa using e) (a.imp (λh=>by simp at h ⊢;exact h.2) id)⟩;rcases a with a|a;{simp[RV.closed]at a;(have:gK w [x] [v] G:=by simp only[gK];exact⟨v,[],G,[],rfl,by simp,i,rfl,rfl⟩);have q:G=[]:=this.plain (by simp[a.1]);subst q;exact λ_ h=>by simp at h};exact l.mono a
 | .row x::c,_,_,b,e,a=>by simp only[jN]at b ⊢;obtain⟨v,n,p,o,rfl,rfl,⟨i,l⟩,k⟩:=b;refine⟨v,n,p,o,rfl,rfl,⟨i.re (λg j=>e g (by simp[j])) (a.imp (λh=>by simp at h;exact h.1) id),l⟩,jN.re k (λg j=>e g (by simp[j])) (a.imp (λh=>by simp at h ⊢;exact h.2) id)⟩
theorem ly.re{h n}:∀{c vs F},ly h w c vs F->(∀g∈F,n g=h g)->(c.all A.closed=I\/∀g,h g<=n g)->ly n w c vs F
 |[],_,_,a,_,_=>by simpa only [ly] using a
 | .val x cs::c,_,_,a,b,e=>by simp only[ly]at a ⊢;obtain⟨v,o,q,p,rfl,rfl,⟨i,l,k⟩,j⟩:=a;exact⟨v,o,q,p,rfl,rfl,⟨i,l.re (λg d=>b g (by simp[d])) (e.imp (λh=>by simp at h;exact h.1) id),k⟩,ly.re j (λg d=>b g (by simp[d])) (e.imp (λh=>by simp only[dt,aw]at h;exact h.2) id)⟩
 | .box cs::c,_,_,a,b,e=>by simp only[ly]at a ⊢;obtain⟨v,o,q,p,rfl,rfl,⟨g,T,i,r,t,m,l,rfl,k⟩,j⟩:=a;refine⟨v,o,g::r,p,rfl,rfl,⟨g,T,i,r,t,m,by rw[b g (by simp)];exact l,rfl,k.re (λy s=>b y (by simp[s])) (e.imp (λh=>by simp at h;exact h.1) id)⟩,ly.re j (λg d=>b g (by simp[d])) (e.imp (λh=>by simp only[dt,aw]at h;exact h.2) id)⟩
theorem AR.ptr{h a g F}(m:AR h w a (.pointer (Z ⟨g,0,O⟩)) F):(∃i,a=.box i)/\h g=0/\g∈F:=by cases a with|val y i=>{obtain⟨p,o,t,l⟩:=m;cases y with|true=>{cases t rfl}|false=>have:=l rfl;subst this;cases i with|nil=>{simp[jN]at o}|cons r B=>obtain⟨v,D,K,H,e,_,j,_⟩:=o;simp at e;rw[<- e.1]at j;cases r with|d x=>{obtain⟨_,G,s,_⟩:=j;cases x<;>simp[Rp]at s}|row x=>obtain⟨A,n,c,q⟩:=j.1.slice;cases q}|box i=>obtain⟨C,T,p,L,e,_,l,rfl,_⟩:=m;cases e;exact⟨⟨i,rfl⟩,l,by simp⟩
theorem ly.ptr{h}:∀{as vs F},ly h w as vs F->∀g,Value.pointer (Z ⟨g,0,O⟩)∈vs->h g=0/\g∈F
 |[],_,_,c,g,b=>by simp[ly]at c;rw[c.1]at b;simp at b
 |a::as,_,_,c,g,b=>by obtain⟨v,k,m,l,rfl,rfl,j,i⟩:=c;rcases aU.1 b with rfl|b;{obtain⟨_,e,d⟩:=j.ptr;exact⟨e,by simp[d]⟩};obtain⟨e,d⟩:=ly.ptr i g b;exact⟨e,by simp[d]⟩
def SF(β:Nat->Nat):M C->M Value->Prop
 |[],vs=>vs=[]
 |c::cs,vs=>∃v a,vs=v::a/\(∀b,c=.ptr b 0->v=.pointer (Z ⟨β b,0,O⟩))/\SF β cs a
theorem gY.mB{γ}:∀{a vs},gY γ w a vs->SF γ.β a vs
 |[],_,h=>by simpa only [gY,SF] using h
 |c::a,_,h=>by obtain⟨v,i,rfl,g,d⟩:=h;exact⟨v,i,rfl,λb e=>by subst e;simpa only [CR] using g,gY.mB d⟩
theorem CQ:∀(cs) {as outs vs F γ s s'},Inv γ h0 io w0 s f w->SF γ.β cs vs->xL s' cs=Z as->ly γ.h w outs (fx as vs) F->F.Nodup->(∀g∈F,(γ.ω g=.free\/γ.ω g=.fI\/Value.pointer (Z ⟨g,0,O⟩)∈fx as vs)/\g<w.heap.size/\(w0.heap.size<=g\/g∈io))->
  (∀b∈cG cs,γ.ω (γ.β b)=.box b)->∃k,Inv k h0 io w0 (lY s cs outs) f w/\k.β=γ.β/\k.h=γ.h/\∀g,g∉F->k.ω g=γ.ω g
 |[],as,outs,vs,F,γ,s,s',B,_,_,_,_,_,_=>⟨γ,by simpa [lY] using B,rfl,rfl,λ_ _=>rfl⟩
 |c::cs,as,outs,vs,F,γ,s,s',B,hc,m,r,D,p,n=>by obtain⟨v,fq,rfl,q,V⟩:=hc;simp only[xL]at m;split at m;{rename_i a i;simp at m;obtain⟨Nc,m,rfl⟩:=m;by_cases G:∃b,c=.ptr b 0;{obtain⟨b,rfl⟩:=G;have nJ:∃l,a=.box l:=by{simp only[Sd]at i;split at i;{simp at i;obtain⟨l,_,rfl⟩:=i;exact⟨l,rfl⟩};cases i};obtain⟨l,rfl⟩:=nJ;simp only[fx]at r p;have q:=q b rfl;cases outs with|nil=>{simp[ly]at r}|cons o outs=>obtain⟨v0,ovs,F1,W,e,rfl,H,R⟩:=r;cases e;rw[q]at H;obtain⟨⟨Yb,rfl⟩,hz,hgm⟩:=H.ptr;obtain⟨g,T,us,X,e,hB,D6,rfl,Y⟩:=H;cases e;rw[cD]at D;obtain⟨Ai,Oo,C⟩:=D;obtain⟨t,N⟩:=cW.1 Ai;have U:∀g∈X,γ.ω g=.free\/γ.ω g=.fI:=by{intro g j;rcases (p g (by simp[j])).1 with h|h|h;{exact .inl h};{exact .inr h};exfalso;rcases aU.1 h with h|h;{rw[q]at h;simp at h;exact t (h▸j)};have:=(ly.ptr R g h).2;exact C g (by simp[j]) g this rfl};obtain⟨P,i1,c1,y,x,A,s1⟩:=mY (d:=b+500) Yb 0 B Y N (λg j=>⟨U g j,(p g (by simp[j])).2⟩);have L:P.ω (P.β b)=.box b:=by{rw[y,A _ t];exact n b (by simp[cG])};have i2:=i1.gB (b:=b) (by rw[y];exact hB) L c1;have K:∀g,g∈W->g∉X:=λg j h=>C g (by simp[h]) g j rfl;obtain⟨n7,i3,b3,h3,o3⟩:=CQ cs (as:=Nc) (outs:=outs) (vs:=fq) (F:=W) i2 (by rw[y];exact V) m (by rw[x];exact R) Oo (λg j=>by obtain⟨k1,k2⟩:=p g (by simp[j]);refine⟨?_,k2⟩;rw[A g (K g j)];rcases k1 with h|h|h;{exact .inl h};{exact .inr (.inl h)};rcases aU.1 h with h|h;{exfalso;rw[q]at h;simp at h;exact C g (by simp[h]) g j rfl};exact .inr (.inr h)) (λb' mD=>by have Q:=n b' (by simp[cG,mD]);rw[y,A];{exact Q};intro hm;rcases U _ hm with h|h<;>rw[Q]at h<;>cases h);refine⟨n7,by simpa [lY] using i3,b3.trans y,h3.trans x,λg j=>?_⟩;simp only[aX,aU,not_or]at j;rw[o3 g j.2,A g j.1.2]};have VV:∃S l,a=.val S l:=by{unfold Sd at i;split at i;{rename_i b;exact absurd ⟨b,rfl⟩ G};simp at i;obtain⟨l,_,rfl⟩:=i;exact⟨_,l,rfl⟩};obtain⟨S,l,rfl⟩:=VV;simp only[fx]at r p;have e:lY s (c::cs) outs=lY s cs outs:=by{cases c with|ptr b o=>{cases o with|zero=>{exact absurd ⟨b,rfl⟩ G}|succ o=>simp[lY]}|_=>simp[lY]};rw[e];exact CQ cs B V m r D p (λb hb=>n b (by cases c<;>simp[cG,hb]))};cases m
theorem AP{d}:∀(rs) {us F} (q) {γ s},Inv γ h0 io w0 s f w->ly γ.h w rs us F->F.Nodup->(∀g∈F,(γ.ω g=.free\/γ.ω g=.fI)/\g<w.heap.size/\(w0.heap.size<=g\/g∈io))->(∀a∈rs,∃o k,a=.val o k/\k.length<=30)->
  ∃b,Inv b h0 io w0 (iM d q rs s).2 f w/\gY b w (iM d q rs s).1 us/\b.β=γ.β/\b.h=γ.h/\∀r,(∀i,30 * q<=i->r≠vg d i)->b.sl r=γ.sl r
 |[],us,F,q,γ,s,c,e,_,_,_=>by obtain⟨rfl,rfl⟩:=e;exact⟨γ,by simpa [iM] using c,by simp[iM,gY],rfl,rfl,λ_ _=>rfl⟩
 |a::rs,us,F,q,γ,s,c,e,x,B,y=>by obtain⟨o,k,rfl,A⟩:=y a (by simp);obtain⟨v,V,F1,F2,rfl,rfl,⟨p,U,T,S⟩,R⟩:=e;rw[cD]at x;obtain⟨Ai,Oo,G⟩:=x;obtain⟨oY,L,c1,Y,D,K,H⟩:=tW (d:=d) k (30 * q) c U Ai (λg m=>B g (by simp[m]));obtain⟨n,i2,W,X,C,t⟩:=AP rs (q+1) L (by rw[D];exact R) Oo (λg m=>by rw[K g (λh=>G g h g m rfl)];exact B g (by simp[m])) (λa Q=>y a (by simp[Q]));have l:gY n w (er d (30 * q) k s).1 p:=by{refine c1 n (by rw[C]) (λj P N=>t _ (λi c=>RL (by omega)))};refine⟨n,i2,?_,X.trans Y,C.trans D,λr e=>?_⟩;{simp only[iM];refine⟨v,V,rfl,?_,W⟩;cases o with|true=>{rw[T rfl];simp;exact⟨p,rfl,l⟩}|false=>simp only[aQ];have:=S rfl;subst this;exact BM l};rw[t r (λi c=>e i (by omega)),H r (λi c=>e i c)]
end
end
section
open Go.RowKit
theorem sc:∀a s q,look (iu s a).rw q=if q∈a then O else look s.rw q
 |[],s,q=>by simp[iu]
 |r::a,s,q=>by simp[iu,sc a,St.dL,fL];by_cases h:q∈a;{simp[h]};by_cases b:r=q;{simp[b]};simp[b,ov b]
theorem vt:∀a s,(iu s a).sl=s.sl/\(iu s a).bx=s.bx
 |[],s=>⟨rfl,rfl⟩
 |r::a,s=>by simp[iu];exact vt a (s.dL r)
theorem qh:∀a s q,look (gl s a).bx q=if q∈a then O else look s.bx q
 |[],s,q=>by simp[gl]
 |r::a,s,q=>by simp[gl,qh a,fL];by_cases h:q∈a;{simp[h]};by_cases b:r=q;{simp[b]};simp[b,ov b]
theorem pn:∀a s,(gl s a).sl=s.sl/\(gl s a).rw=s.rw
 |[],s=>⟨rfl,rfl⟩
 |r::a,s=>by simp[gl];exact pn a _
def Bg.weaken{γ c a f w e}(h:Bg γ a w e)(p:∀g,a (γ.ω g)->f (c.ω g))(n:∀g,c.h g<=γ.h g):Bg c f w e:=
 ⟨h.os,h.tape,h.output,h.size,λg o i=>h.block g o (λl=>i (p g l)),λg j m=>h.cell g j (bZ m (n g)),h.jl⟩
def iG{P F fn}(d:P.funcs[F]?=Z fn)(e:fn.body.isSome=I)(c:(fn.name == "runtime.NumGoroutine")=J)args w:(callFunc F args).run P w=.ok (.enter F args) w:=by (have a:¬fn.name = "runtime.NumGoroutine":=by simpa using c);(have b:¬fn.body=O:=by cases h:fn.body<;>simp_all);simp[callFunc,d,a,b]
theorem yk{s}:∀(cs) {as},xL s cs=Z as->∀b∈cG cs,∃j,look s.bx b=Z j
 |[],_,_,b,d=>by simp[cG]at d
 |c::cs,as,h,b,d=>by simp[xL]at h;split at h;{rename_i a e;simp at h;obtain⟨n,h,_⟩:=h;by_cases k:∃f,c=.ptr f 0;{obtain⟨f,rfl⟩:=k;simp[cG]at d;rcases d with rfl|d;{simp[Sd]at e;split at e;{rename_i j i;exact⟨j,i⟩};cases e};exact yk cs h b d};have g:cG (c::cs)=cG cs:=by{unfold Sd at e;split at e;{rename_i f;exact absurd ⟨f,rfl⟩ k};simp at e;obtain⟨m,l,_⟩:=e;have C4:=AN l;cases c<;>simp_all[cG,C.cells,C.cell]};rw[g]at d;exact yk cs h b d};cases h
section
variable {P:Program} {γ:Gh} {h0:Nat->Nat} {io:M Nat} {w0:World} {s s':St} {f:Fm} {w:World} {N:Nat} {ty:TypeId} {pos:String} {aft:Array Edge} {gd:u (Nat×Bool)} {K:Fm->World->Prop}
 {cf:Nat->M A->u (M A×M A)} {mf:Nat->Bool->M D->Int->u (M D×Int)}
theorem Ud(hi:Inv γ h0 io w0 s f w){F0 op0 V gn k vs}(hcr:gY γ w k vs){m:u Nat}(y:(execOp (fr f N).eval ⟨m,op0,ty,pos,aft,gd⟩).run P w=.ok (.enter F0 (V vs)) w)
  (mh:∀a r o,cf gn a=Z (r,o)->∀w h vs F,w0.heap.size<=w.heap.size->(∀g,g<w0.heap.size->g∉io->w.heap[g]?=w0.heap[g]?)->(∀g∈F,w0.heap.size<=g\/g∈io)->Ka P F0 a r o w h vs F V) (B:nS cf s m gn k=Z s') (h:∀γ' t C,Inv γ' h0 io w0 s' t C->Tr m (qV s k) γ w γ' C f t->K t C) :
  xv P N ⟨m,op0,ty,pos,aft,gd⟩ f w K:=by
 simp only[nS]at B;split at B;{cases B}
 .rename_i cas VG;split at B
  .rename_i jy;simp only[aw]at jy;obtain⟨⟨Oq,Ii⟩,aqV⟩:=jy;rw[uu]at Oq Ii;split at B;{cases B}
   .rename_i L outs Q5;split at B
    .rename_i ahM;simp only[bq]at B;obtain⟨DI,iS,bS,slS,mS,gS,wS,e1,e2,e3⟩:=hi.zf (iq k);(have W:∀r∈dx s k,r∉iq k:=by{intro r y p;have:=bF.1 aqV r y;simp[p]at this});obtain⟨F,rA,dA,lA,pA⟩:=Ez iS bS slS mS e2 gS e3 k hcr VG (λr y=>y) W Oq Ii;(have ltF:∀g∈F,g<w.heap.size:=λg n=>by{rcases lA g n with ⟨r,_,i⟩|⟨b,_,i,_⟩<;>exact (iS.own g (by rw[i];simp)).1});have ioF:∀g∈F,w0.heap.size<=g\/g∈io:=λg n=>by{rcases lA g n with ⟨r,_,i⟩|⟨b,_,i,_⟩<;>exact (iS.own g (by rw[i];simp)).2}
     have sQ:=mh _ _ _ Q5 w DI.h vs F hi.size hi.frame ioF rA dA ltF iS.fK;unfold xv Oper.wp;rw[y,Oper.upon_enter];refine Calls.mono sQ λe C hp=>?_;obtain⟨v,us,F1,F2,h',rfl,Lb,rT,sR,Jm,VD,qy⟩:=hp;have key:∀H R,Inv H h0 io w0 R f w->H.β=γ.β->(∀g,γ.h g<=H.h g)->(∀g,H.h g<=DI.h g)->(∀g∈F,(∃r∈dx s k,H.ω g=.row r)\/∃b∈cG k,H.ω g=.box b/\g=H.β b)->(∀g,(∃r∈dx s k,H.ω g=.row r)->∃r∈dx s k,γ.ω g=.row r)->(∀g,(∃b∈cG k,H.ω g=.box b)->∃b∈cG k,γ.ω g=.box b)->R.bx=s.bx-> ((L.all A.closed=I/\outs.all A.closed=I)\/∀g,g<w.heap.size->g∉F->DI.h g<=H.h g)-> ∃t,(fr f N).put m v=fr t N/\K t C\/(iM (m.getD 0) 0 L (lY (gl (iu R (dx s k)) (cG k)) k outs)).2.put m (match (iM (m.getD 0) 0 L (lY (gl (iu R (dx s k)) (cG k)) k outs)).1 with|[c]=>c|l=>.tv l)≠s':=by
      intro H R iX bX mX mX2 lX arw arv ebx Q;by_cases U:(iM (m.getD 0) 0 L (lY (gl (iu R (dx s k)) (cG k)) k outs)).2.put m (match (iM (m.getD 0) 0 L (lY (gl (iu R (dx s k)) (cG k)) k outs)).1 with|[c]=>c|l=>.tv l)=s'
      .have i1:Inv H h0 io w0 (gl (iu R (dx s k)) (cG k)) f w:=iX.sub
        (λd c p=>by rw[(pn _ _).1,(vt _ _).1]at p;exact p)
        (λd c p=>by
         rw[qh,(vt _ _).2]at p
         split at p
         .cases p
         .exact p)
        (λd c p=>by
         rw[(pn _ _).2,sc]at p
         split at p
         .cases p
         .exact p)
       obtain⟨u5,X,i2,b2,AS,m2,k2,n2,o2,x2,f2⟩:=i1.after (mv:=dx s k) (bs:=cG k) qy mX2 (λg n=>by rcases lX g n with i|⟨b,x,i,_⟩;{exact .inl i};exact .inr ⟨b,x,i⟩) (λr y=>by rw[(pn _ _).2,sc,if_pos y]) (λb x=>by rw[qh,if_pos x]) (λg n b x=>by rcases lX g n with ⟨r,_,i⟩|⟨b',mD,i,G⟩;{rw[i]at x;cases x};have j:=pA b' mD;rw[bS,<- bX,<- G]at j;exact (sR.ptr g j).1);have heq:∀g∈F1++F2,X.h g=h' g:=λg n=>n2 g (VD g n).1;(have hle:(L.all A.closed=I/\outs.all A.closed=I)\/∀g,h' g<=X.h g:=by{rcases Q with Q|Q;{exact .inl Q};refine .inr λg=>?_;rcases dZ g w.heap.size with i|i;{by_cases G:g∈F;{rw[n2 g (.inr G)];exact aH _};rw[k2 g i G,qy.hold g i G];exact Q g i G};rw[n2 g (.inl i)];exact aH _});have aaO:ly X.h C outs (fx cas vs) F2:=sR.re (λg n=>heq g (by simp[n])) (hle.imp (λh=>h.2) id);have ahL:ly X.h C L us F1:=rT.re (λg n=>heq g (by simp[n])) (hle.imp (λh=>h.1) id);(have agc:∀g∈F1++F2,(X.ω g=.free\/X.ω g=.fI\/Value.pointer (Z ⟨g,0,O⟩)∈fx cas vs)/\g<C.heap.size/\(w0.heap.size<=g\/g∈io):=by{intro g n;obtain⟨i,G⟩:=VD g n;rcases i with i|i;{exact⟨.inl (f2 g i),G,.inl (aS hi.size i)⟩};rcases lX g i with j|⟨b,x,j,h4⟩;{have ho:=o2 g i j;exact⟨.inr (.inl ho),G,(i2.own g (by rw[ho];simp)).2⟩};have ho:=x2 g b j;refine⟨.inr (.inr ?_),G,(i2.own g (by rw[ho];simp)).2⟩;have Y:=pA b x;rw[bS,<- bX,<- h4]at Y;exact Y});rw[cD]at Jm;obtain⟨Ai,Oo,xA⟩:=Jm;obtain⟨n7,i3,b3,j,o3⟩:=CQ k (s':=s) i2 (by rw[b2,bX];exact hcr.mB) VG aaO Oo (λg n=>agc g (by simp[n])) (λb x=>by obtain⟨Yb,hbl⟩:=yk k VG b x;obtain⟨T,us',_,_,k3⟩:=iX.bx b Yb (by rw[ebx];exact hbl);rw[b2];exact x2 _ b k3);obtain⟨Qb,i4,c4,b4,h4,_⟩:=AP (d:=m.getD 0) L 0 i3 (by rw[j];exact ahL) Ai (λg n=>by obtain⟨S,k2',k3⟩:=agc g (by simp[n]);have iH:g∉F2:=λh=>xA g n g h rfl;refine⟨?_,k2',k3⟩;rw[o3 g iH];rcases S with S|S|S;{exact .inl S};{exact .inr S};exact absurd (aaO.ptr g S).2 iH) (λa ha=>by have hs:=bF.1 ahM a ha;cases a with|val ag vs=>{exact⟨ag,vs,rfl,by simpa [A.short] using hs⟩}|box vs=>simp[A.short]at hs);(have TE:CR Qb C (match (iM (m.getD 0) 0 L (lY (gl (iu R (dx s k)) (cG k)) k outs)).1 with|[c]=>c|l=>.tv l) v:=by{generalize (iM (m.getD 0) 0 L (lY (gl (iu R (dx s k)) (cG k)) k outs)).1=l at c4;have p:=c4.length;rcases Lb with rfl|⟨iH,rfl⟩;{cases l with|nil=>{simp at p}|cons c l=>cases l with|nil=>{exact BM c4}|cons c' l=>simp at p};split;{rename_i c;simp at p;exact absurd p iH};simp only[CR];exact⟨us,rfl,c4⟩});(have htr:∀t:Fm,FOk m f t->Tr m (qV s k) γ w Qb C f t:=λt hfo=>by{refine⟨u5.weaken (λg n=>?_) mX,λb _=>by rw[b4,b3,b2,bX],λg=>by rw[h4,j];exact aS (mX g) (m2 g),hfo⟩;simp only[qV];rcases n with ⟨r,y,Y⟩|⟨b,x,Y⟩;{obtain⟨r',MV,h6⟩:=arw g ⟨r,y,Y⟩;exact⟨r',by simp[MV],.inr h6⟩};obtain⟨b',mD,h6⟩:=arv g ⟨b,x,Y⟩;exact⟨b',by simp[mD],.inl h6⟩});cases m with|none=>{refine⟨f,.inl ⟨rfl,h Qb f C ?_ (htr _ .skip)⟩⟩;rw[<- U];exact i4}|some d=>refine⟨ID f d v,.inl ⟨rR f N d v,h Qb _ C ?_ (htr _ .put)⟩⟩;rw[<- U];exact i4.put d _ v TE
      exact⟨f,.inr U⟩
     (have lG:∀g∈F,(∃r∈dx s k,γ.ω g=.row r)\/∃b∈cG k,γ.ω g=.box b/\g=γ.β b:=by{intro g n;rcases lA g n with ⟨r,y,i⟩|⟨b,x,i,G⟩;{rcases wS g with j|j|j|⟨q,hq,j⟩;{exact .inl ⟨r,y,j.symm.trans i⟩};{rw[i]at j;cases j};{rw[i]at j;cases j};rw[i]at j;cases j;exact absurd hq (W r y)};rcases wS g with j|j|j|⟨q,hq,j⟩;{exact .inr ⟨b,x,j.symm.trans i,by rw[<- bS];exact G⟩};{rw[i]at j;cases j};{rw[i]at j;cases j};rw[i]at j;cases j});(have fin:∃t,(fr f N).put m v=fr t N/\K t C:=by{by_cases Q:(L.all A.closed && outs.all A.closed)=I;{rw[if_pos Q]at B;rw[aw]at Q;obtain⟨t,i|i⟩:=key γ s hi rfl (λ_=>aH _) mS lG (λ_ h=>h) (λ_ h=>h) rfl (.inl Q);{exact⟨t,i⟩};exact absurd B i};rw[if_neg Q]at B;obtain⟨t,i|i⟩:=key DI (eM s (iq k)) iS bS mS (λ_=>aH _) lA (λg ⟨r,y,i⟩=>by rcases wS g with j|j|j|⟨q,hq,j⟩;{exact⟨r,y,j.symm.trans i⟩};{rw[i]at j;cases j};{rw[i]at j;cases j};rw[i]at j;cases j;exact absurd hq (W r y)) (λg ⟨b,x,i⟩=>by rcases wS g with j|j|j|⟨q,hq,j⟩;{exact⟨b,x,j.symm.trans i⟩};{rw[i]at j;cases j};{rw[i]at j;cases j};rw[i]at j;cases j) e2 (.inr λ_ _ _=>aH _);{exact⟨t,i⟩};exact absurd B i});exact fin
    cases B
  cases B
theorem air(j:Inv γ h0 io w0 s f w){i fn}(q:P.funcs[i]?=Z fn)(p:fn.body.isSome=I)(l:(fn.name == "runtime.NumGoroutine")=J){as xs ts d}(n:GY N as.toList xs=I)
  (m:∀a r o,cf d a=Z (r,o)->yd w0 io P i a r o) {dst} (k:nG cf mf s dst (.call d xs)=Z s') (h:∀b e c,Inv b h0 io w0 s' e c->Tr dst (gr s dst (.call d xs)) γ w b c f e->K e c) :
  xv P N ⟨dst,.call {callee:=.value (.func i),args:=as,argTypes:=ts },ty,pos,aft,gd⟩ f w K:=by simp[nG]at k;(have g:as.map (fr f N).eval=(as.toList.map (fr f N).eval).toArray:=by apply Array.ext';rw[Array.toList_map]);exact Ud (V:=List.toArray) j (AD j _ _ n) (zm (ρ:=(fr f N).eval) (dst:=dst) (ty:=ty) (pos:=pos) (aft:=aft) (gd:=gd) (w:=w) (ts:=ts) (iG q p l) rfl g) m k h
theorem Y9(F:Nat):∀(a:M Nat),gY γ w (a.map λb=>.ptr b 0) (a.map λb=>Value.pointer (Z ⟨γ.β b,0,O⟩))
 |[]=>by simp[gY]
 |b::a=>by simp;exact⟨_,_,rfl,by simp[CR],Y9 F a⟩
theorem anu(m:Inv γ h0 io w0 s f w){t fn}(T:P.funcs[t]?=Z fn)(R:fn.body.isSome=I)(B:(fn.name == "runtime.NumGoroutine")=J){x y kx l ts k}{g F:Nat}(L:lN N x kx=I)(H:lN N y l=I)
  (G:∀a r o,yj k (cf g) a=Z (r,o)->afX w0 io P t F a r o) {dst} (c:nG cf mf s dst (.MP k g F kx l)=Z s') (h:∀d p i,Inv d h0 io w0 s' p i->Tr dst (gr s dst (.MP k g F kx l)) γ w d i f p->K p i) :
  xv P N ⟨dst,.call {callee:=.value (.func t),args:=#[x,y],argTypes:=ts },ty,pos,aft,gd⟩ f w K:=by simp[nG]at c;have C:=cU m L;have j:=cU m H;split at c;{rename_i S q v;split at c;{rename_i Q;subst Q;rw[v]at j;simp[CR]at j;have n:gY γ w (gF s kx::q.map λb=>.ptr b 0) ((fr f N).eval x::q.map λb=>Value.pointer (Z ⟨γ.β b,0,O⟩)):=by{exact⟨_,_,rfl,C,Y9 0 q⟩};refine Ud (V:=ag6 S) m n (zm (ρ:=(fr f N).eval) (dst:=dst) (ty:=ty) (pos:=pos) (aft:=aft) (gd:=gd) (w:=w) (ts:=ts) (iG T R B) rfl ?_) (λa r o e=>G a r o e) c (by simpa only [gr,v] using h);simp[ag6,j]};cases c};cases c
theorem adh{s}:∀(cs) {as},xL s cs=Z as->as.all A.isVal=I->dx s cs=[]/\cG cs=[]
 |[],_,_,_=>⟨rfl,rfl⟩
 |c::cs,as,h,e=>by simp[xL]at h;split at h;{rename_i a b;simp at h;obtain⟨m,h,rfl⟩:=h;rw[dt,aw]at e;obtain⟨l,k⟩:=adh cs h e.2;by_cases g:∃d,c=.ptr d 0;{obtain⟨d,rfl⟩:=g;simp[Sd]at b;split at b;{simp at b;obtain⟨i,_,rfl⟩:=b;exact absurd e.1 (by simp[A.isVal])};cases b};unfold Sd at b;split at b;{rename_i d;exact absurd ⟨d,rfl⟩ g};simp at b;obtain⟨i,j,_⟩:=b;have C4:=AN j;cases c<;>simp_all[cG,C.cells,C.cell,dx,oG]};cases h
theorem BR{b}:∀vs j s,C.jU b (er (b+500) j vs s).1=(er (b+500) j vs s).1
 |[],j,s=>by simp[er,C.jU]
 | .d x::vs,j,s=>by simp[er,C.jU,C.kill,BR vs (j+1) s]
 | .row x::vs,j,s=>by (have h:vg (b+500) j≠b:=by unfold vg;omega);simp[er,C.jU,C.kill,BR vs (j+1),if_neg h]
theorem ant(p:Inv γ h0 io w0 s f w){F0 fn}(Ah:P.funcs[F0]?=Z fn)(Fj:fn.body.isSome=I)(uO:(fn.name == "runtime.NumGoroutine")=J){as xs ts gn}(L:GY N as.toList xs=I)
  (mh:∀a r o,cf gn a=Z (r,o)->yd w0 io P F0 a r o) {dst} (j:nG cf mf s dst (.cbx gn xs)=Z s') (h:∀m V k,Inv m h0 io w0 s' V k->Tr dst dst.toList γ w m k f V->K V k) :
  xv P N ⟨dst,.call {callee:=.value (.func F0),args:=as,argTypes:=ts },ty,pos,aft,gd⟩ f w K:=by simp only[nG]at j;split at j;{rename_i b cas VG;split at j;{rename_i VV;split at j;{rename_i n Q5;simp at j;generalize Du:xs.map (gF s)=cs at *;(have U:gY γ w cs (as.toList.map (fr f N).eval):=by rw[<- Du];exact AD p _ _ L);generalize Ik:as.toList.map (fr f N).eval=vs at *;obtain⟨DI,G,bS,B,C,gS,wS,e1,e2,e3⟩:=p.zf (iq cs);obtain⟨l,q⟩:=adh cs VG VV;obtain⟨F,rA,dA,lA,pA⟩:=Ez G bS B C e2 gS e3 cs U VG (λr i=>i) (by rw[l];simp) (by rw[l];simp) (by rw[q];simp);have hF:F=[]:=by{cases F with|nil=>{rfl}|cons g F=>rcases lA g (by simp) with ⟨r,i,_⟩|⟨b,hb,_⟩;{rw[l]at i;cases i};rw[q]at hb;cases hb};subst hF;have sQ:=mh _ _ _ Q5 w DI.h vs [] p.size p.frame (λ_ h=>by cases h) rA dA (λ_ h=>by cases h) G.fK;(have X:as.map (fr f N).eval=vs.toArray:=by rw[<- Ik];apply Array.ext';rw[Array.toList_map]);have i:=zm (ρ:=(fr f N).eval) (dst:=Z b) (ty:=ty) (pos:=pos) (aft:=aft) (gd:=gd) (w:=w) (ts:=ts) (iG Ah Fj uO) rfl X;unfold xv Oper.wp;rw[i,Oper.upon_enter];refine Calls.mono sQ λe k hp=>?_;obtain⟨v,us,F1,F2,h',rfl,Lb,rT,sR,Jm,VD,qy⟩:=hp;obtain⟨u5,t,i2,b2,AS,m2,k2,n2,o2,x2,f2⟩:=G.after (mv:=[]) (bs:=[]) qy (λ_=>aH _) (λ_ h=>by cases h) (λ_ h=>by cases h) (λ_ h=>by cases h) (λ_ h=>by cases h);obtain⟨_,rfl⟩:=sR;rw[aG]at Jm VD;have Q:∀g,h' g<=t.h g:=λg=>by{rcases dZ g w.heap.size with c|c;{rw[k2 g c (by simp),qy.hold g c (by simp)];exact aH _};rw[n2 g (.inl c)];exact aH _};have Y:ly t.h k [.box n] us F1:=rT.re (λg S=>n2 g (VD g S).1) (.inr Q);have KY:∀g∈F1,(t.ω g=.free\/t.ω g=.fI)/\g<k.heap.size/\(w0.heap.size<=g\/g∈io):=λg S=>by{obtain⟨c,h2⟩:=VD g S;rcases c with c|c;{exact⟨.inl (f2 g c),h2,.inl (aS p.size c)⟩};cases c};obtain⟨v0,us',Fa,Fb,rfl,rfl,⟨g,T,ws,F',rfl,hB,D6,rfl,W⟩,rfl,rfl⟩:=Y;rw[aG]at Jm KY;obtain⟨R,jy⟩:=cW.1 Jm;have hv:v=.pointer (Z ⟨g,0,O⟩):=by{rcases Lb with c|⟨c,_⟩;{simpa using c.symm};simp at c};subst hv;obtain⟨n7,i3,c3,b3,h3,o3,s3⟩:=mY (d:=b+500) n 0 i2 W jy (λy H=>KY y (by simp[H]));have gg:=KY g (by simp);obtain⟨Qb,i4,j4,k4,l4,m4,w4⟩:=i3.Kd (b:=b) hB (by rw[o3 g R];exact gg.1) gg.2.2 (by rw[h3];exact D6) c3;rw[BR]at i4;have i5:=i4.put b (.ptr b 0) (.pointer (Z ⟨g,0,O⟩)) (by simp[CR]);refine⟨ID f b (.pointer (Z ⟨g,0,O⟩)),rR f N b _,h Qb _ k ?_ ⟨u5.weaken (λy H=>?_) C,λx L=>?_,λy=>?_,.put⟩⟩;{rw[<- j];exact i5};{rcases H with ⟨r,i,_⟩|⟨r,i,_⟩<;>cases i};{rw[k4 x (λe=>L (by rw[e])),b3,b2,bS]};rw[l4,h3];exact aS (C y) (m2 y)};cases j};cases j};cases j
end
end
section
open Go.RowKit
section
variable {P:Program} {γ:Gh} {h0:Nat->Nat} {io:M Nat} {w0:World} {s s':St} {f:Fm} {w:World} {N:Nat} {ty:TypeId} {pos:String} {aft:Array Edge} {gd:u (Nat×Bool)} {K:Fm->World->Prop}
 {cf:Nat->M A->u (M A×M A)} {mf:Nat->Bool->M D->Int->u (M D×Int)}
theorem anv(Q:Inv γ h0 io w0 s f w){T T' p k x y a b d}(hU:P.underlying T=Z (.slice p))(hS:qo P p=Z k)(hx:lN N x a=I)(hy:lN N y b=I)(C:nG cf mf s (Z d) (.Kv k a b)=Z s')
  (h:∀U f' w',Inv U h0 io w0 s' f' w'->Tr (Z d) (gr s (Z d) (.Kv k a b)) γ w U w' f f'->K f' w') :
  xv P N ⟨Z d,.call {callee:=.builtin .copy,args:=#[x,y],argTypes:=#[T,T'] },ty,pos,aft,gd⟩ f w K:=by
 have Y:=cU Q hx;have L:=cU Q hy;simp[nG]at C;split at C
 .rename_i d0 r k' wM es Q6 V hyb;cases Q6;rw[V]at Y;rw[hyb]at L;simp only[CR,Rp]at Y L;obtain⟨F,⟨A2,m,c2,y1,y2,y3,y4,y5,y6,y7,y8⟩,jt⟩:=L;split at C
  .rename_i row hl;split at C
   .rename_i hc;obtain⟨rfl,rfl,rfl,hrf,VJ,u6,hle⟩:=hc;cases C;obtain⟨n7,A,n,c,i2,b2,AS,W,o2,l2,q1,q2,q3,q4,q5,q6,q7,q8⟩:=Q.AF hl;have rh:(fr f N).eval x=.slice A n c:=Y.1.trans q1;(have hrX:r∈gr s (Z d) (.Kv row.k a b):=by simp[gr,V,rowsOf]);(have uO:n=m:=by omega);subst uO;have Fj:IntKind.i64.wrap (n:Int)=(n:Int):=iJ (by simp[maxLen]at q4;omega);(have nK:∀{w'},(Builtin.copy_ #[T,T'] ty #[(fr f N).eval x,(fr f N).eval y]).run P w=.ok (.int .i64 n) w'->(execOp (fr f N).eval ⟨Z d,.call {callee:=.builtin .copy,args:=#[x,y],argTypes:=#[T,T'] },ty,pos,aft,gd⟩).run P w=.ok (.value (.int .i64 n)) w':=by{intro w' hr;simp[execOp,resolve,invoke,builtin,hr]});have qA:goInt n=.int .i64 (n:Int):=rfl;rcases y8 with ⟨y8,rfl⟩|⟨K_,bb,oo,t,G2,rfl,rfl,B,a3'⟩
    .have HS:es=[]:=cx (by omega);have hre:row.es=[]:=cx (by omega);subst y8;refine Cv (nK (w':=w) ?_) ?_;{rw[rh,y1];cases A<;>cases A2<;>simp[Builtin.copy_,run_underlying hU,run_sizeOf hS,Builtin.lenOf,Builtin.firstCells,loadCells,loadCellsFrom,storeCells,goInt]}
     .have e1:s.setRow r {row with es:=es }=s.setRow r row:=by rw[HS,<- hre]
      have i3:Inv γ h0 io w0 (s.setRow r row) f w:={Q with
       rw:=λq e H=>by
        simp[St.setRow,look]at H;by_cases hq:r=q
        .subst hq;simp at H;subst H;exact Q.rw r row hl
        .rw[if_neg hq,fL]at H
         split at H
         .cases H
         .exact Q.rw q e H }
      (have e2:es.length=0:=by rw[HS];rfl);refine h γ _ w ?_ ⟨Bg.refl _ _ _,λ_ _=>rfl,λ_=>aH _,.put⟩;rw[e1,e2];exact i3.put d _ _ (jE rfl)
    .have hG2:G2=[]:=B.plain (y5 rfl);subst hG2;rcases q8 with ⟨rfl,rfl⟩|⟨g,o,xs,G,rfl,a2,a3,a4,a5,a6,a7,a8,a9,xw,a11,a12⟩;{omega};obtain⟨rfl,S,vs,hB,MW⟩:=xw u6;have hG:G=[]:=a6.plain (q7 hrf);subst hG;have X:γ.h g=0:=a9 VJ;(have hl2:t.length=n * row.k:=by rw[iQ.length es B y7,y2]);have hck:n * row.k<=c * row.k:=eK _ q3;have ahJ:=B.xV;have hf:=run_firstCells_some (P:=P) w row.k n ⟨bb,oo,O⟩ n c2 t hl2 (λj v hv=>by rw[rJ];exact a3' j v hv);have nU:=nC (P:=P) (o:=0) t 0 w vs hB (by omega) ahJ;simp at nU;refine Cv (nK (w':=ji w g (.cells (eE vs 0 t).toArray S (0,0))) ?_) ?_;{rw[rh,y1];simp[Builtin.copy_,run_underlying hU,run_sizeOf hS,Builtin.lenOf,hf,nU,goInt]};have nt:=YE.ji w g (eE vs 0 t).toArray S;have u5:Bg γ (λo=>∃i∈gr s (Z d) (.Kv row.k a b),o=.box i\/o=.row i) w _:=n_ Q nt ⟨r,hrX,.inr a3⟩ (λj hj=>by rw[X]at hj;omega);have h5:=i2.YI (n_ i2 nt (M:=λo=>o=.fI) a4 (λj hj=>by rw[W,X]at hj;omega)) (by simp) (λb R=>by cases R) (λr hr=>by cases hr);(have ahN:eE vs 0 t=t++vs.drop t.length:=by simp[eE]);have jj:j5 (ji w g (.cells (eE vs 0 t).toArray S (0,0))) g 0 t:=by{have h7:=(hB.mF S (eE vs 0 t)).Xh;intro j l hu;refine h7 j l ?_;rw[ahN,eH (bn.1 hu).1];exact hu}
     have MV:iQ (ji w g (.cells (eE vs 0 t).toArray S (0,0))) es t []:=B.ey _ (λbe R=>by simp at R);obtain⟨Qb,h6,h7,h8,h9,_,_⟩:=h5.wH (r:=r) (x:={row with es:=es }) (n:=n) (c:=c) (g:=g) (o:=0) y2 q3 q4 q5 y7 (λ_=>y5 rfl)
      (by rw[iF];exact a2) (.inl a4) (i2.own g (by rw[a4];simp)).2 ⟨by rw[iF];omega,nt.fz⟩ MV jj (by rw[W,X];omega) (λ_=>by rw[W,X]) (λ_=>⟨rfl,S,_,hB.mF S _,by rw[zg (by omega)];exact MW⟩)
      (λbe R=>by simp at R) (λ_=>⟨by simp,λbe R=>by simp at R⟩) (by rw[AS];exact q1)
     (have e6:(s.dL r).setRow r {row with es:=es }=s.setRow r {row with es:=es }:=by{(have:sy (sy s.rw r) r=sy s.rw r:=by simp[sy,List.filter_filter]);simp[St.setRow,St.dL,this]});rw[e6]at h6;refine h Qb _ _ ?_ ⟨u5,λ_ _=>by rw[h8,b2],λe=>by have:=h9 e;rw[W]at this;exact this,.put⟩;rw[<- y2];exact h6.put d _ _ (jE Fj)
   cases C
  cases C
 cases C
end
end
end Go.Proofs.YtbnmicpicjmgiaaGreatDoor
