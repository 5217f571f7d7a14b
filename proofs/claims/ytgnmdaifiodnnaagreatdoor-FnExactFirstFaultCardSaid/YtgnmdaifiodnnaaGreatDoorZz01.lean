/- Part of the proof. Condition: none. -/
import Derived.WalkKit
import Derived.WalkSpells
import Derived.WalkLawsBesides
import Derived.Deep.LoopGhost
import Derived.OrdersHeld
import Derived.Lib.ItoaNum
import Derived.Lib.Bytealg
import Derived.Lib.LaidTab
import Derived.Lib.AppendZerosOnto
import Derived.Laws.Tables
set_option linter.all false
open Array renaming length_toList->gp,toList_map->mI,replicate->qv,getElem?_eq_getElem->tE,getElem?_eq_none->wH
open Bool renaming and_eq_true->aw,false_eq_true->aL,not_eq_true'->cx,or_eq_true->dE,eq_iff_iff->dU,true->I,false->J
open Decidable renaming em->jY,decide->Z'
open Go renaming sizeOf->pe
open Int renaming neg_neg->uJ
open List renaming length_map->aj,nil_append->av,cons_append->ax,length_append->az,append_nil->aH,length_nil->aK,length_cons->aN,mem_cons->aU,mem_append->aZ,replicate->a_,map_cons->bc,append_assoc->bh,length_take->bo,take_length->bq,getElem?_eq_some_iff->br,all_eq_true->bG,mem_singleton->bO,take_append_drop->ck,map_nil->cA,map_append->cC,eq_nil_of_length_eq_zero->cD,nodup_append->cI,all_cons->cK,take_succ_cons->cT,nodup_cons->cU,drop_of_length_le->cX,length_eq_one_iff->dm,mem_map->dx,mem_map_of_mem->dM,mem_of_mem_take->ee,getElem?_append_left->eH,flatMap_cons->eJ,length_eq_zero_iff->fe,getElem?_take->fq,mem_of_getElem?->fT,ext_getElem?->gq,replicate_succ->ir,length_drop->jK,getElem?_append_right->jM,getElem?_set->ko,filter_cons->kN,filter_filter->nO,take_left->oc,map_congr_left->qB,getElem?_drop->sw,size_toArray->tH,foldl_cons->xu,getElem?_eq_none->xP,drop_drop->zo,getElem?_append->zt
open List.cons renaming injEq->cr
open Nat renaming le_refl->aI,le_trans->aV,zero_add->bF,zero_le->bK,lt_of_lt_of_le->bZ,add_zero->dG,lt_or_ge->ed,mul_le_mul_right->eK,blt->eP,add_assoc->gC,beq->gI,blt_eq->jO,ble->jX,add_mul->mq,succ_mul->ov,eq_of_beq_eq_true->o0,min_eq_left->qC
open Ne renaming symm->ow
open Option renaming map_eq_some_iff->ay,isSome_iff_exists->cB,bind_some->dR,some->Z,none->O
open Option.some renaming injEq->ao,inj->fQ
open Prod renaming fst->fU,snd->sx
open Prod.mk renaming injEq->aP
open UInt8 renaming ofNat->dW
namespace Go.Proofs.YtgnmdaifiodnnaaGreatDoor
abbrev M.{v}(α:Type v):=List α
abbrev u.{v}(α:Type v):=Option α
abbrev z:=ByteArray
section
open Go.RowKit
inductive V where
 |int (n:Int)
 |bool (b:Bool)
 |str (s:ByteArray)
 |list (xs:List V)
 |agg (fs:List V)
mutual
def V.cnt:V->Nat
 | .int _=>1
 | .bool _=>1
 | .str _=>1
 | .list xs=>V.ags xs+1
 | .agg fs=>V.ags fs+1
def V.ags:List V->Nat
 |[]=>0
 |f::fs=>V.cnt f+V.ags fs+1
end
def jZ(w:World)(b o:Nat)(c:M Value):Prop:=∀j a,c[j]?=Z a->w.cell? ⟨b,o+j,O⟩=Z a
def rK(b o n:Nat):(⟨b,o,O⟩:Addr).add n=⟨b,o+n,O⟩:=by unfold Addr.add;split;{rename_i h;subst h;rfl};rfl
def jZ.ez{w c:World}{b o:Nat}{d:M Value}(h:jZ w b o d)(f:c.heap[b]?=w.heap[b]?):jZ c b o d:=by intro j a e;rw[World.cell?_of_block (w:=w) f];exact h j a e
def jZ.sub{w:World}{b o:Nat}{d:M Value}(h:jZ w b o d)(j k:Nat):jZ w b (o+j) ((d.drop j).take k):=by intro i a c;rw[fq]at c;split at c;{rw[sw]at c;rw[gC];exact h _ a c};cases c
def Jx{w:World}{b:Nat}{o:Obj}(h:w.heap[b]?=Z o):b<w.heap.size:=by rcases ed b w.heap.size with a|a;{exact a};simp[wH a]at h
def LP{w a:World}{b:Nat}(d:b<w.heap.size)(c:a.heap[b]?=w.heap[b]?):b<a.heap.size:=by rw[tE d]at c;exact Jx c
structure J2 (B:Nat) (w w':World):Prop extends Below B w w' where
 RT:∀g,B<=g->∀o,w'.frozen? ⟨g,o,none⟩=false
def yo{w:World}{g:Nat}(h:w.heap.size<=g)(o:Nat):w.frozen? ⟨g,o,O⟩=J:=by simp[World.frozen?,wH h]
def YC(w:World):J2 w.heap.size w w:=⟨Below.refl _ _,λ_ a o=>yo a o⟩
theorem J2.drew{B:Nat}{a w:World}(h:J2 B a w):J2 B a w.drew:=⟨h.toBelow.drew,h.RT⟩
def YB{B:Nat}{a w d:World}(h:J2 B a w)(c:J2 w.heap.size w d)(hB:B<=w.heap.size):J2 B a d:=by refine⟨h.toBelow.trans (c.toBelow.mono hB),λg e o=>?_⟩;rcases ed g w.heap.size with b|b;{rw[World.frozen?_of_block (w:=w) (c.block g b)];exact h.RT g e o};exact c.RT g b o
def IF(w:World)(a:Array Value)(t:TypeId):J2 w.heap.size w (w.alloc (.cells a t)):=by refine⟨(Below.refl _ _).alloc (aI _) _,λg b o=>?_⟩;by_cases e:g=w.heap.size;{subst e;unfold World.frozen?;simp only[heap_alloc_new];simp};exact yo (by simp;omega) o
def nt(w:World)(g:Nat)(t:TypeId)(a:M Value):Prop:=w.heap[g]?=Z (.cells a.toArray t (0,0))
def jD(w:World)(g:Nat)(o:Obj):World:={w with heap:=w.heap.setIfInBounds g o }
section
variable {w w':World} {g:Nat} {t:TypeId} {cs:M Value}
theorem nt.lt(h:nt w g t cs):g<w.heap.size:=Jx h
theorem nt.cell(h:nt w g t cs)(i:Nat):w.cell? ⟨g,i,O⟩=cs[i]?:=by unfold nt at h;simp[World.cell?,h]
theorem nt.W0(h:nt w g t cs):jZ w g 0 cs:=by intro j a b;rw[bF,h.cell,b]
theorem nt.frozen(h:nt w g t cs)(i:Nat):w.frozen? ⟨g,i,O⟩=J:=by unfold nt at h;simp[World.frozen?,h]
theorem nt.new(w:World)(t:TypeId)(cs:M Value):nt (w.alloc (.cells cs.toArray t)) w.heap.size t cs:=by unfold nt;exact heap_alloc_new w _
theorem nt.ez(h:nt w g t cs)(a:w'.heap[g]?=w.heap[g]?):nt w' g t cs:=a.trans h
theorem nt.alloc(h:nt w g t cs)(o:Obj):nt (w.alloc o) g t cs:=h.ez (Below.heap_alloc w o g h.lt)
theorem Vt(w:World)(g:Nat)(o:Obj)(k:Nat)(h:k≠g):(jD w g o).heap[k]?=w.heap[k]?:=by simp[jD,Array.getElem?_setIfInBounds_ne (ow h)]
theorem iD(w:World)(g:Nat)(o:Obj):(jD w g o).heap.size=w.heap.size:=by simp[jD]
theorem nt.mN(h:nt w g t cs)(a:TypeId)(b:M Value):nt (jD w g (.cells b.toArray a (0,0))) g a b:=by unfold nt jD;simp[h.lt]
theorem O6(h:nt w g t cs)(i:Nat)(v:Value):w.setCell ⟨g,i,O⟩ v=jD w g (.cells (cs.set i v).toArray t (0,0)):=by unfold World.setCell jD;congr 1;apply Array.ext;{simp};intro k a c;simp only[Array.size_modify]at a;simp only[Array.getElem_modify];split;{rename_i e;subst e;have b:w.heap[g]'a=.cells cs.toArray t (0,0):=by{have:=h;unfold nt at this;rw[tE a]at this;exact fQ this};rw[b];simp};rename_i e;rw[Array.getElem_setIfInBounds_ne _ e]
end
theorem nt.drew{w:World}{g:Nat}{t:TypeId}{a:M Value}(h:nt w g t a):nt w.drew g t a:=h
def size_alloc(w:World)(o:Obj):(w.alloc o).heap.size=w.heap.size+1:=by simp
end
section
open Go.RowKit
abbrev Fm:=Nat->Value
def Iu(f:Fm)(d:Nat)(v:Value):Fm:=λi=>cond (gI i d) v (f i)
def fr(f:Fm)(N:Nat):Act:=⟨Array.ofFn (λi:Fin N=>f i.val),[]⟩
def rT(f:Fm)(N d:Nat)(v:Value):(fr f N).put (Z d) v=fr (Iu f d v) N:=by have e:(Array.ofFn (λi:Fin N=>f i.val)).setIfInBounds d v=Array.ofFn (λi:Fin N=>Iu f d v i.val):=by{apply Array.ext;{simp};intro i g a;simp only[Array.size_ofFn]at a;rw[Array.getElem_setIfInBounds (by simpa using a)];simp only[Array.getElem_ofFn,Iu];by_cases h:d=i;{subst h;simp};have c:gI i d=J:=by{cases b:gI i d;{rfl};exact absurd (o0 b).symm h};simp[h,c]};exact congrArg (λt=>Act.mk t []) e
def S5(f:Fm){N d:Nat}(hd:d<N):(fr f N).eval (.tmp d)=f d:=by simp[fr,Act.eval,hd]
def et{f:Fm}{N d:Nat}{v:Value}(h:f d=v)(hd:eP d N=I:=by rfl):(fr f N).eval (.tmp d)=v:=by rw[S5 f (by simpa using hd)];exact h
theorem ec{f:Fm}{N:Nat}{v:Value}:(fr f N).eval (.const v)=v:=rfl
theorem ef{f:Fm}{N:Nat}{g:FuncId}:(fr f N).eval (.func g)=.func (.func g) #[] #[]:=rfl
def pst(N:Nat)(c:Fm->World->Prop)(d:Nat->Fm->World->Prop)(b:Fm->World->Prop):Exit->Act->World->Prop
 | .normal,a,w=>∃f,a=fr f N/\c f w
 | .exit id,a,w=>∃f,a=fr f N/\d id f w
 | .ret,a,w=>∃f,a=fr f N/\b f w
 |_,_,_=>False
def W(P:Program)(N:Nat)(c:Code)(b:Fm->World->Prop)(d:Nat->Fm->World->Prop)(a:Fm->World->Prop)(f:Fm)(w:World):Prop:=
 c.wp P (pst N b d a) (fr f N) w
def Ls(P:Program)(N:Nat)(a:Array Oper)(b:Fm->World->Prop)(rest:M Oper)(f:Fm)(w:World):Prop:=
 wpList P a (pst N b (λ_ _ _=>False) (λ_ _=>False)) rest (fr f N) w
def qT(N:Nat)(a:Array Oper)(f:Fm)(g:u (Nat×Bool)):Prop:=
 Region.wanted {(default:Oper) with guard:=g } (yielded a (fr f N).tmps)=I
theorem wn{N:Nat}{a:Array Oper}{f:Fm}:qT N a f O:=rfl
def HJ{N:Nat}{a:Array Oper}{f:Fm}{j c:Nat}(d:(a[j]?).bind (·.dst)=Z c)(hd:eP c N=I)(b:Bool)(e:f c=.bool b):yielded a (fr f N).tmps j=Z b:=by (have g:c<N:=by simpa using hd);simp[yielded,d,fr,g,e]
def Sb{N:Nat}{a:Array Oper}{f:Fm}{j b:Nat}(c:(a[j]?).bind (·.dst)=Z b)(hd:eP b N=I)(d:f b=undef):yielded a (fr f N).tmps j=O:=by (have e:b<N:=by simpa using hd);simp[yielded,c,fr,e,d,undef]
def wy{N:Nat}{a:Array Oper}{f:Fm}{j b:Nat}{want:Bool}(d:f b=.bool want)(c:(a[j]?).bind (·.dst)=Z b:=by rfl)(hd:eP b N=I:=by rfl):qT N a f (Z (j,want)):=by simp[qT,Region.wanted,HJ c hd want d]
def qT.to{N:Nat}{a:Array Oper}{f:Fm}{gd:u (Nat×Bool)}(h:qT N a f gd)(c:u Tmp)(op:Op)(e:TypeId)(b:String)(d:Array Edge):Region.wanted ⟨c,op,e,b,d,gd⟩ (yielded a (fr f N).tmps)=I:=h
def jP(N:Nat)(a:Array Oper)(f:Fm)(g:u (Nat×Bool)):Prop:=
 Region.wanted {(default:Oper) with guard:=g } (yielded a (fr f N).tmps)=J
def jP.to{N:Nat}{a:Array Oper}{f:Fm}{gd:u (Nat×Bool)}(h:jP N a f gd)(c:u Tmp)(op:Op)(e:TypeId)(b:String)(d:Array Edge):¬Region.wanted ⟨c,op,e,b,d,gd⟩ (yielded a (fr f N).tmps)=I:=by have g:Region.wanted ⟨c,op,e,b,d,gd⟩ (yielded a (fr f N).tmps)=J:=h;rw[g];simp
def wx{N:Nat}{a:Array Oper}{f:Fm}{j b:Nat}{want:Bool}(d:f b=.bool (!want))(c:(a[j]?).bind (·.dst)=Z b:=by rfl)(hd:eP b N=I:=by rfl):jP N a f (Z (j,want)):=by simp[jP,Region.wanted,HJ c hd _ d]
def wu{N:Nat}{a:Array Oper}{f:Fm}{j b:Nat}{want:Bool}(d:f b=undef)(c:(a[j]?).bind (·.dst)=Z b:=by rfl)(hd:eP b N=I:=by rfl):jP N a f (Z (j,want)):=by simp[jP,Region.wanted,Sb c hd d]
section rules
variable {P:Program} {N:Nat} {Kn:Fm->World->Prop} {Ke:Nat->Fm->World->Prop} {Kr:Fm->World->Prop} {f:Fm} {w:World}
theorem fh{x y:Code}(h:W P N x (λf w=>W P N y Kn Ke Kr f w) Ke Kr f w):W P N (.seq x y) Kn Ke Kr f w:=by refine wp_seq (wp_mono h ?_);intro e a w b;cases e with|normal=>{obtain⟨g,rfl,d⟩:=b;exact d}|exit id=>{exact b}|ret=>{exact b}|goto l=>{exact b.elim}|panic c=>{exact b.elim}|outgrown=>exact b.elim
theorem qu(h:Kn f w):W P N .skip Kn Ke Kr f w:=wp_skip ⟨f,rfl,h⟩
theorem wE(h:Kr f w):W P N .ret Kn Ke Kr f w:=wp_ret ⟨f,rfl,h⟩
theorem HE{id:Nat}(h:Ke id f w):W P N (.exit id) Kn Ke Kr f w:=wp_exit ⟨f,rfl,h⟩
theorem uH{c:Operand}{x y:Code}(a:(fr f N).eval c=.bool I)(h:W P N x Kn Ke Kr f w):W P N (.cond c x y) Kn Ke Kr f w:=wp_cond a h
theorem sr{c:Operand}{x y:Code}(a:(fr f N).eval c=.bool J)(h:W P N y Kn Ke Kr f w):W P N (.cond c x y) Kn Ke Kr f w:=wp_cond a h
theorem pE{id:Nat}{c:Code}(h:W P N c Kn (λb f w=>if b=id then Kn f w else Ke b f w) Kr f w):W P N (.block id c) Kn Ke Kr f w:=by refine wp_block (wp_mono h ?_);intro e a w d;cases e with|normal=>{exact d}|ret=>{exact d}|exit b=>{obtain⟨j,rfl,g⟩:=d;simp only[Exit.inBlock];split at g;{rename_i i;rw[if_pos i];exact⟨j,rfl,g⟩};rename_i i;rw[if_neg i];exact⟨j,rfl,g⟩}|goto l=>{exact d.elim}|panic c=>{exact d.elim}|outgrown=>exact d.elim
theorem HF{c:Code}(b:Nat->Fm->World->Prop)(n0:Nat)(o:b n0 f w)
  (round:∀n f w,b n f w->W P N c (λi j=>∃g,g<n/\b g i j) Ke Kr f w):W P N (.loop c) Kn Ke Kr f w:=by refine wp_loop_ghost (λn a w=>∃f,a=fr f N/\b n f w) n0 ⟨f,rfl,o⟩ ?_;rintro n a w ⟨f,rfl,m⟩;refine wp_mono (round n f w m) ?_;intro e a w d;cases e with|normal=>{obtain⟨i,rfl,g,k,h⟩:=d;exact⟨g,k,i,rfl,h⟩}|exit id=>{exact d}|ret=>{exact d}|goto l=>{exact d.elim}|panic c=>{exact d.elim}|outgrown=>exact d.elim
theorem dd{id:Nat}{l:M Oper}(h:Ls P N l.toArray Kn l f w):W P N (.region id l.toArray J) Kn Ke Kr f w:=by refine wp_mono (wp_region_lit h) ?_;intro e a w b;cases e with|normal=>{exact b}|exit id=>{obtain⟨_,_,h⟩:=b;exact h.elim}|ret=>{obtain⟨_,_,h⟩:=b;exact h.elim}|goto l=>{exact b.elim}|panic c=>{exact b.elim}|outgrown=>exact b.elim
theorem su{c:Code}{m:Fm->World->Prop}{n:Nat->Fm->World->Prop}{k:Fm->World->Prop}(h:W P N c Kn Ke Kr f w)
  (p:∀f w,Kn f w->m f w) (q:∀i f w,Ke i f w->n i f w) (o:∀f w,Kr f w->k f w):W P N c m n k f w:=by refine wp_mono h ?_;intro e a w b;cases e with|normal=>{obtain⟨j,g,d⟩:=b;exact⟨j,g,p _ _ d⟩}|exit id=>{obtain⟨j,g,d⟩:=b;exact⟨j,g,q _ _ _ d⟩}|ret=>{obtain⟨j,g,d⟩:=b;exact⟨j,g,o _ _ d⟩}|goto l=>{exact b.elim}|panic c=>{exact b.elim}|outgrown=>exact b.elim
variable {ops:Array Oper} {rest:M Oper} {d:Nat} {op:Op} {ty:TypeId} {pos:String} {aft:Array Edge} {gd:u (Nat×Bool)}
theorem fH(h:Kn f w):Ls P N ops Kn [] f w:=⟨f,rfl,h⟩
theorem Ci(a:jP N ops f gd)(h:Ls P N ops Kn rest (Iu f d undef) w):Ls P N ops Kn (⟨Z d,op,ty,pos,aft,gd⟩::rest) f w:=by unfold Ls wpList;rw[if_neg (a.to _ _ _ _ _),rT];exact h
theorem adK(a:jP N ops f gd)(h:Ls P N ops Kn rest f w):Ls P N ops Kn (⟨O,op,ty,pos,aft,gd⟩::rest) f w:=by unfold Ls wpList;rw[if_neg (a.to _ _ _ _ _)];exact h
theorem enter{g:FuncId}{fn:Func}{c:Code}{args:Array Value}{R:Ending->World->Prop}(m:P.funcs[g]?=Z fn)(n:fn.body=Z c)(p:fn.ntmps=N)(o:jX args.size N=I)
  (h:W P N c (λf w=>∃v,(results fn (fr f N).tmps).run P w=.ok v w/\R (.returned v) w) (λ_ _ _=>False) (λf w=>∃v,(results fn (fr f N).tmps).run P w=.ok v w/\R (.returned v) w) (λi=>args.getD i undef) w) :
  Calls P g args w R:=by refine calls_of_wp m n ?_;have e:({tmps:=args++qv (fn.ntmps - args.size) undef,defers:=[] }:Act)=fr (λi=>args.getD i undef) N:=by{unfold fr;congr 1;(have r:args.size<=N:=by simpa using o);apply Array.ext;{simp[p];omega};intro i k j;simp only[Array.getElem_ofFn,Array.getElem_append];split<;>simp_all};rw[e];refine wp_mono h ?_;intro e a w b;cases e with|normal=>{obtain⟨q,rfl,v,k,j⟩:=b;exact⟨rfl,v,k,j⟩}|exit id=>{obtain⟨_,_,h⟩:=b;exact h.elim}|ret=>{obtain⟨q,rfl,v,k,j⟩:=b;exact⟨rfl,v,k,j⟩}|goto l=>{exact b.elim}|panic c=>{exact b.elim}|outgrown=>exact b.elim
end rules
section drawn
variable {P:Program} {N:Nat} {Kn:Fm->World->Prop} {Ke:Nat->Fm->World->Prop} {Kr:Fm->World->Prop} {f:Fm} {w:World} {ops:Array Oper} {S:World->Prop}
def UW(ops:Array Oper):M (Nat×Bool)->Array Bool->Bool
 |[],listed=>(Region.ready .any ops listed).isEmpty
 |(i,quiet)::s,listed=>(Region.ready .any ops listed).contains i && (if quiet then Region.free .any ops listed i else Region.ready .any ops listed ==[i]) && UW ops s (listed.setIfInBounds i I)
variable {s:M (Nat×Bool)} {i d:Nat} {op:Op} {ty:TypeId} {pos:String} {aft:Array Edge} {gd:u (Nat×Bool)}
end drawn
section ops
variable {P:Program} {ρ:Operand->Value} {w:World} {dst:u Tmp} {ty:TypeId} {pos:String} {aft:Array Edge} {gd:u (Nat×Bool)}
theorem ew{x:Operand}{v:Value}(a:ρ x=v):(execOp ρ ⟨dst,.move x,ty,pos,aft,gd⟩).run P w=.ok (.value v) w:=by subst a;rfl
theorem fp{x:Operand}{v:Value}(a:ρ x=v):(execOp ρ ⟨dst,.assign x,ty,pos,aft,gd⟩).run P w=.ok (.value v) w:=by subst a;rfl
theorem PB{c x y:Operand}{v:Value}(b:ρ c=.bool I)(a:ρ x=v):(execOp ρ ⟨dst,.pick c x y,ty,pos,aft,gd⟩).run P w=.ok (.value v) w:=by simp[execOp,b,a,asBool]
theorem Pz{c x y:Operand}{v:Value}(b:ρ c=.bool J)(a:ρ y=v):(execOp ρ ⟨dst,.pick c x y,ty,pos,aft,gd⟩).run P w=.ok (.value v) w:=by simp[execOp,b,a,asBool]
theorem agb{x:Operand}{b:Bool}{T:TypeId}(a:ρ x=.bool b):(execOp ρ ⟨dst,.unOp .not T x,ty,pos,aft,gd⟩).run P w=.ok (.value (.bool (!b))) w:=by simp[execOp,a,Op.unary]
theorem Sl(a b:Int):(a ==b)=Z' (a=b):=by by_cases h:a=b<;>simp[h]
section int
variable {x y:Operand} {a b:Int} {T T':TypeId} {ik:IntKind}
theorem A6{r:Bool}(d:ρ x=.int ik a)(c:ρ y=.int ik b)(e:Z' (a<b)=r):(execOp ρ ⟨dst,.binOp .lss T x y T',ty,pos,aft,gd⟩).run P w=.ok (.value (.bool r)) w:=by subst e;simp[execOp,d,c,binOp,Op.intCmp,eqGuard]
theorem aoY{r:Bool}(d:ρ x=.int ik a)(c:ρ y=.int ik b)(e:Z' (a<=b)=r):(execOp ρ ⟨dst,.binOp .leq T x y T',ty,pos,aft,gd⟩).run P w=.ok (.value (.bool r)) w:=by subst e;simp[execOp,d,c,binOp,Op.intCmp,eqGuard]
theorem aoX{r:Bool}(d:ρ x=.int ik a)(c:ρ y=.int ik b)(e:Z' (b<a)=r):(execOp ρ ⟨dst,.binOp .gtr T x y T',ty,pos,aft,gd⟩).run P w=.ok (.value (.bool r)) w:=by subst e;simp[execOp,d,c,binOp,Op.intCmp,eqGuard]
theorem acO{r:Bool}(d:ρ x=.int ik a)(c:ρ y=.int ik b)(e:Z' (b<=a)=r):(execOp ρ ⟨dst,.binOp .geq T x y T',ty,pos,aft,gd⟩).run P w=.ok (.value (.bool r)) w:=by subst e;simp[execOp,d,c,binOp,Op.intCmp,eqGuard]
theorem aoW{r:Bool}(d:ρ x=.int ik a)(c:ρ y=.int ik b)(e:Z' (a=b)=r):(execOp ρ ⟨dst,.binOp .eql T x y T',ty,pos,aft,gd⟩).run P w=.ok (.value (.bool r)) w:=by subst e;simp[execOp,d,c,binOp,Op.intCmp,eqGuard];exact Sl a b
theorem aoZ{r:Bool}(d:ρ x=.int ik a)(c:ρ y=.int ik b)(e:Z' (a=b)=!r):(execOp ρ ⟨dst,.binOp .neq T x y T',ty,pos,aft,gd⟩).run P w=.ok (.value (.bool r)) w:=by (have:r=!Z' (a=b):=by rw[e];simp);subst this;simp[execOp,d,c,binOp,Op.intCmp,eqGuard,bne];exact Sl a b
theorem J0(d:ρ x=.int .i64 a)(c:ρ y=.int .i64 b)(e:-9223372036854775808<=a+b/\a+b<=9223372036854775807):(execOp ρ ⟨dst,.binOp .add T x y T',ty,pos,aft,gd⟩).run P w=.ok (.value (.int .i64 (a+b))) w:=by simp[execOp,d,c,binOp,Op.intArith,eqGuard];exact IntWalk.i64_in _ (by omega)
end int
theorem oq(a b:z):(a.toList ==b.toList)=Z' (a=b):=by rw[dU];simp only[beq_iff_eq,decide_eq_true_eq,ByteArray.toList_eq];constructor;{intro h;cases a;cases b;simp at h;simp[h]};rintro rfl;rfl
section str
variable {x y:Operand} {a b:z} {T T':TypeId}
theorem ajL{r:Bool}(d:ρ x=.string a)(c:ρ y=.string b)(e:Z' (a=b)=r):(execOp ρ ⟨dst,.binOp .eql T x y T',ty,pos,aft,gd⟩).run P w=.ok (.value (.bool r)) w:=by subst e;simp[execOp,d,c,binOp,Op.stringOp,eqGuard,oq]
theorem ajN{r:Bool}(d:ρ x=.string a)(c:ρ y=.string b)(e:Z' (a=b)=!r):(execOp ρ ⟨dst,.binOp .neq T x y T',ty,pos,aft,gd⟩).run P w=.ok (.value (.bool r)) w:=by (have:r=!Z' (a=b):=by rw[e];simp);subst this;simp[execOp,d,c,binOp,Op.stringOp,eqGuard,oq]
end str
section lg
variable {x y:Operand} {a b:Bool} {T T':TypeId}
theorem ajJ{r:Bool}(g:P.underlying T=Z .bool)(d:ρ x=.bool a)(c:ρ y=.bool b)(f:Z' (a=b)=r):(execOp ρ ⟨dst,.binOp .eql T x y T',ty,pos,aft,gd⟩).run P w=.ok (.value (.bool r)) w:=by (have e:(a ==b)=r:=by subst f;cases a<;>cases b<;>rfl);simp[execOp,d,c,eqGuard,run_eql_bool w T a b g,e]
theorem ajK{r:Bool}(f:P.underlying T=Z .bool)(d:ρ x=.bool a)(c:ρ y=.bool b)(g:Z' (a=b)=!r):(execOp ρ ⟨dst,.binOp .neq T x y T',ty,pos,aft,gd⟩).run P w=.ok (.value (.bool r)) w:=by (have e:(a ==b)=!r:=by cases a<;>cases b<;>cases r<;>simp_all);simp[execOp,d,c,eqGuard,run_neq_bool w T a b f,e]
end lg
theorem HI{x:Operand}{A:u Addr}{n c:Nat}{T a:TypeId}(d:P.underlying T=Z (.slice a))(b:ρ x=.slice A n c) :
  (execOp ρ ⟨dst,.call {callee:=.builtin .len,args:=#[x],argTypes:=#[T] },ty,pos,aft,gd⟩).run P w=.ok (.value (.int .i64 n)) w:=by simp[execOp,resolve,invoke,builtin,Builtin.len_,b,run_underlying d,goInt]
theorem ajM{x:Operand}{s:z}{T:TypeId}(b:P.underlying T=Z .string)(a:ρ x=.string s) :
  (execOp ρ ⟨dst,.call {callee:=.builtin .len,args:=#[x],argTypes:=#[T] },ty,pos,aft,gd⟩).run P w=.ok (.value (.int .i64 s.size)) w:=by simp[execOp,resolve,invoke,builtin,Builtin.len_,a,run_underlying b,goInt]
theorem rF{x y:Operand}{b o n c:Nat}{i:Nat}{a:Int}{T d:TypeId}{k:Nat}(j:P.underlying T=Z (.slice d))(l:∀w,(pe d).run P w=.ok k w)(f:ρ x=.slice (Z ⟨b,o,O⟩) n c)(e:ρ y=.int .i64 a)(h:a=(i:Int))(g:i<n) :
  (execOp ρ ⟨dst,.indexAddr T x y,ty,pos,aft,gd⟩).run P w=.ok (.value (.pointer (Z ⟨b,o+i * k,O⟩))) w:=by subst h;(have m:(0:Int)<=(i:Int)/\(i:Int)<(n:Int):=by omega);simp[execOp,Instr.indexAt,f,e,asIntOf,run_underlying j,l,rK,g]
def bY(s:z)(i:Nat):Int:=((s[i]?.getD 0).toNat:Int)
theorem mP(s:z)(i:Nat):0<=bY s i/\bY s i<=255:=by unfold bY;have:=(s[i]?.getD 0).toNat_lt;omega
theorem acP{x y:Operand}{s:z}{i:Nat}{a:Int}{T:TypeId}(f:P.underlying T=Z .string)(c:ρ x=.string s)(b:ρ y=.int .i64 a)(e:a=(i:Int))(d:i<s.size) :
  (execOp ρ ⟨dst,.index T x y,ty,pos,aft,gd⟩).run P w=.ok (.value (.int .u8 (bY s i))) w:=by subst e;simp[execOp,Instr.index,c,b,asIntOf,run_underlying f,bY,d]
theorem afe{x:Operand}{b o j k:Nat}{T:TypeId}{fs:Array Field}{i:Nat}{a:Field}(e:P.underlying T=Z (.struct fs))(g:fs[i]?=Z a)(f:∀w,(pe a.type).run P w=.ok (k+1) w)(d:a.offset=j)(c:ρ x=.pointer (Z ⟨b,o,O⟩)) :
  (execOp ρ ⟨dst,.fieldAddr T x i,ty,pos,aft,gd⟩).run P w=.ok (.value (.pointer (Z ⟨b,o+j,O⟩))) w:=by subst d;simp[execOp,Instr.fieldAt,c,Instr.sureAddr,run_underlying e,g,fieldPlace,f,rK]
theorem R9{x y:Operand}{A:u Addr}{n c h:Nat}{a:Int}{T d:TypeId}{k:Nat}(l:P.underlying T=Z (.slice d))(m:∀w,(pe d).run P w=.ok k w)(g:ρ x=.slice A n c)(f:ρ y=.int .i64 a)(j:a=(h:Int))(i:h<=c) :
  (execOp ρ ⟨dst,.slice T x O (Z y) O,ty,pos,aft,gd⟩).run P w=.ok (.value (.slice A h c)) w:=by subst j;(have e:A.map (λb=>b.add 0)=A:=by cases A<;>simp[Addr.add]);simp[execOp,Instr.sliceAt,Instr.slice,Instr.sliceBounds,Instr.sliceBound,g,f,asIntOf,run_underlying l,m,i,e]
def P3(ρ:Operand->Value):u Operand->Nat->Nat->Prop
 |none,a,m=>m=a
 |some y,_,m=>ρ y=.int .i64 (m:Int)
theorem acQ{x:Operand}{m g:u Operand}{A:u Addr}{n c l h:Nat}{T b:TypeId}{k:Nat}(i:P.underlying T=Z (.slice b))(j:∀w,(pe b).run P w=.ok k w)(f:ρ x=.slice A n c)(d:P3 ρ m 0 l)(e:P3 ρ g n h)(p:l<=h)(o:h<=c) :
  (execOp ρ ⟨dst,.slice T x m g O,ty,pos,aft,gd⟩).run P w=.ok (.value (.slice (if c=l then A else A.map (λa=>a.add (l * k))) (h - l) (c - l))) w:=by cases m with|none=>{cases g with|none=>{simp only[P3]at d e;subst d e;simp[execOp,Instr.sliceAt,Instr.slice,Instr.sliceBounds,f,run_underlying i,j]}|some a=>simp only[P3]at d e;subst d;simp[execOp,Instr.sliceAt,Instr.slice,Instr.sliceBounds,Instr.sliceBound,f,e,asIntOf,run_underlying i,j,o]}|some y=>cases g with|none=>{simp only[P3]at d e;subst e;simp[execOp,Instr.sliceAt,Instr.slice,Instr.sliceBounds,Instr.sliceBound,f,d,asIntOf,run_underlying i,j,p]}|some a=>simp only[P3]at d e;simp[execOp,Instr.sliceAt,Instr.slice,Instr.sliceBounds,Instr.sliceBound,f,d,e,asIntOf,run_underlying i,j,p,o]
theorem acR{x:Operand}{g e:u Operand}{t:z}{l h:Nat}{T:TypeId}(f:P.underlying T=Z .string)(d:ρ x=.string t)(b:P3 ρ g 0 l)(c:P3 ρ e t.size h)(j:l<=h)(i:h<=t.size) :
  (execOp ρ ⟨dst,.slice T x g e O,ty,pos,aft,gd⟩).run P w=.ok (.value (.string (t.extract l h))) w:=by cases g with|none=>{cases e with|none=>{simp only[P3]at b c;subst b c;simp[execOp,Instr.sliceAt,Instr.slice,Instr.sliceBounds,d,run_underlying f]}|some a=>simp only[P3]at b c;subst b;simp[execOp,Instr.sliceAt,Instr.slice,Instr.sliceBounds,Instr.sliceBound,d,c,asIntOf,run_underlying f,i]}|some y=>cases e with|none=>{simp only[P3]at b c;subst c;simp[execOp,Instr.sliceAt,Instr.slice,Instr.sliceBounds,Instr.sliceBound,d,b,asIntOf,run_underlying f,j]}|some a=>simp only[P3]at b c;simp[execOp,Instr.sliceAt,Instr.slice,Instr.sliceBounds,Instr.sliceBound,d,b,c,asIntOf,run_underlying f,j,i]
theorem MA{x:Operand}{b o:Nat}{T:TypeId}{v:Value}(d:∀w,(isAgg T).run P w=.ok J w)(a:ρ x=.pointer (Z ⟨b,o,O⟩))(c:w.cell? ⟨b,o,O⟩=Z v) :
  (execOp ρ ⟨dst,.load T x,ty,pos,aft,gd⟩).run P w=.ok (.value v) w:=by simp[execOp,Instr.loadAt,a,Instr.sureAddr,loadVar,d,load,Sem.run,c]
theorem run_loadCellsFrom{b o:Nat}:∀(e:M Value) (i:Nat) (d:Array Value),jZ w b (o+i) e->(loadCellsFrom ⟨b,o,O⟩ i e.length d).run P w=.ok (d++e.toArray) w
 |[],i,d,_=>by simp[loadCellsFrom]
 |c::e,i,d,h=>by have f:=h 0 c (by simp);rw[dG]at f;have g:=run_loadCellsFrom e (i+1) (d.push c) (λj a k=>by have:=h (j+1) a (by simpa using k);rw[show o+(i+1)+j=o+i+(j+1) from by omega];exact this);simp[loadCellsFrom,load,Sem.run,rK,f,g]
theorem MB{x:Operand}{b o:Nat}{T:TypeId}{a:M Value}{k:Nat}(g:∀w,(isAgg T).run P w=.ok I w)(f:∀w,(pe T).run P w=.ok k w)(c:ρ x=.pointer (Z ⟨b,o,O⟩))(d:a.length=k)(e:jZ w b o a) :
  (execOp ρ ⟨dst,.load T x,ty,pos,aft,gd⟩).run P w=.ok (.value (.agg a.toArray)) w:=by subst d;have h:=run_loadCellsFrom (P:=P) (w:=w) (b:=b) (o:=o) a 0 #[] (by simpa using e);simp[execOp,Instr.loadAt,c,Instr.sureAddr,loadVar,g,f,loadCells,h]
def one:Value->Bool
 | .agg _=>J
 | .tuple _=>J
 |_=>I
theorem Hc{g i:Nat}{t:TypeId}{a:M Value}{v:Value}{c:Type}(k:Sem c)(b:nt w g t a)(d:i<a.length)(h:one v=I) :
  (Sem.store .plain ⟨g,i,O⟩ v k).run P w=k.run P (jD w g (.cells (a.set i v).toArray t (0,0))):=by (have f:w.cell? ⟨g,i,O⟩=Z a[i]:=by rw[b.cell];simp[d]);have e:=b.frozen i;rw[<- O6 b];cases v<;>simp_all[Sem.run,one]
theorem aff{x y:Operand}{g o:Nat}{T t:TypeId}{a:M Value}{v:Value}(h:∀w,(pe T).run P w=.ok 1 w)(c:ρ x=.pointer (Z ⟨g,o,O⟩))(b:ρ y=v)(i:one v=I)(f:nt w g t a)(d:o<a.length) :
  (execOp ρ ⟨dst,.store T x y,ty,pos,aft,gd⟩).run P w=.ok .skip (jD w g (.cells (a.set o v).toArray t (0,0))):=by (have e:v.cells=#[v]:=by cases v<;>simp_all[Value.cells,one]);simp[execOp,Instr.storeAt,c,b,Instr.sureAddr,storeVar,h,e,storeCells,store,Addr.add,Hc _ f d i]
def eE(a:M Value)(i:Nat)(vs:M Value):M Value:=a.take i++vs++a.drop (i+vs.length)
theorem JT(w:World)(g:Nat)(o a:Obj):jD (jD w g o) g a=jD w g a:=by simp[jD]
theorem C8(a:M Value)(i:Nat)(v:Value)(vs:M Value)(h:i+(vs.length+1)<=a.length):eE (a.set i v) (i+1) vs=eE a i (v::vs):=by unfold eE;apply gq;intro k;simp only[zt,az,bo,List.length_set,aN,fq,ko,sw,List.getElem?_cons];grind
theorem nK{g:Nat}{t:TypeId}{o:Nat}:∀(vs:M Value) (i:Nat) (w:World) (b:M Value),nt w g t b->o+i+vs.length<=b.length->(∀v∈vs,one v=I)->
  (storeCells ⟨g,o,O⟩ vs i).run P w=.ok () (jD w g (.cells (eE b (o+i) vs).toArray t (0,0)))
 |[],i,w,b,c,_,_=>by have:jD w g (.cells (eE b (o+i) []).toArray t (0,0))=w:=by{have d:=c;unfold nt at d;simp only[eE,aH,aK,dG,ck];have p:=c.lt;unfold jD;have:w.heap.setIfInBounds g (.cells b.toArray t (0,0))=w.heap:=by{apply Array.ext;{simp};intro k f n;rw[Array.getElem_setIfInBounds];split;{rename_i e;subst e;rw[tE n]at d;exact (fQ d).symm};rfl};rw[this]};simp[storeCells,this]
 |v::vs,i,w,b,c,m,f=>by simp only[aN]at m;(have l:(b.set (o+i) v).length=b.length:=by simp);have h:=nK (o:=o) vs (i+1) (jD w g (.cells (b.set (o+i) v).toArray t (0,0))) (b.set (o+i) v) (c.mN t _) (by rw[l];omega) (λa j=>f a (by simp[j]));rw[JT,show o+(i+1)=o+i+1 from by omega,C8 b (o+i) v vs (by omega)]at h;simp only[storeCells,store,rK];have d:=Hc (P:=P) (Sem.pure ()) c (show o+i<b.length by omega) (f v (by simp));simp only[Sem.run_bind,d,Sem.run,Result.andThen_ok];exact h
theorem zn{F:FuncId}{as:Array Operand}{ts:Array TypeId}{vs:Array Value}(c:∀(args:Array Value) (w:World),(callFunc F args).run P w=.ok (.enter F args) w)(b:ρ (.func F)=.func (.func F) #[] #[])(a:as.map ρ=vs) :
  (execOp ρ ⟨dst,.call {callee:=.value (.func F),args:=as,argTypes:=ts },ty,pos,aft,gd⟩).run P w=.ok (.enter F vs) w:=by subst a;simp[execOp,resolve,Deferred.ofValue,b,invoke,c]
theorem a1{x:Operand}{a:Value}(h:ρ x=a):(#[x]:Array Operand).map ρ=#[a]:=by simp[h]
theorem a2{x y:Operand}{a v:Value}(h:ρ x=a)(b:ρ y=v):(#[x,y]:Array Operand).map ρ=#[a,v]:=by simp[h,b]
theorem a3{x y a:Operand}{b v q:Value}(h:ρ x=b)(d:ρ y=v)(c:ρ a=q):(#[x,y,a]:Array Operand).map ρ=#[b,v,q]:=by simp[h,d,c]
theorem a4{x y a t:Operand}{b v q r:Value}(h:ρ x=b)(e:ρ y=v)(d:ρ a=q)(c:ρ t=r):(#[x,y,a,t]:Array Operand).map ρ=#[b,v,q,r]:=by simp[h,e,d,c]
theorem a5{x y a t s:Operand}{b v q r p:Value}(h:ρ x=b)(f:ρ y=v)(e:ρ a=q)(d:ρ t=r)(c:ρ s=p):(#[x,y,a,t,s]:Array Operand).map ρ=#[b,v,q,r,p]:=by simp[h,f,e,d,c]
theorem XN{x:Operand}{vs:Array Value}{i:Nat}{v:Value}(a:ρ x=.tuple vs)(b:vs[i]?=Z v):(execOp ρ ⟨dst,.extract x i,ty,pos,aft,gd⟩).run P w=.ok (.value v) w:=by simp[execOp,Instr.extract,a,b]
end ops
def Sy{p:Prop}[Decidable p](h:p):decide p=I:=by simp[h]
def Sx{p:Prop}[Decidable p](h:¬p):decide p=J:=by simp[h]
def XM{k:IntKind}{a b:Int}(h:a=b):Value.int k a=Value.int k b:=by rw[h]
section asc
variable {P:Program} {N:Nat} {f:Fm} {w:World} {fn:Func}
theorem ya{t:Tmp}{v:Value}(h:fn.results=#[.tmp t])(a:f t=v)(b:eP t N=I:=by rfl):(results fn (fr f N).tmps).run P w=.ok v w:=by (have c:t<N:=by simpa using b);rw[results_tmp h];simp[fr,c,a]
end asc
def xz(P:Program)(N:Nat)(o:Oper)(f:Fm)(w:World)(K:Fm->World->Prop):Prop:=
 o.wp P (fr f N) w (λc b=>∃a,c=fr a N/\K a b) (λ_ _ _=>False)
structure Yi (g:Nat) (w w':World):Prop where
 os:w'.os=w.os
 tape:w'.tape=w.tape
 output:w'.output=w.output
 size:w'.heap.size=w.heap.size
 block:∀k,k≠g->w'.heap[k]?=w.heap[k]?
 fz:∀o,w'.frozen? ⟨g,o,none⟩=false
theorem Yi.jD(w:World)(g:Nat)(e:Array Value)(t:TypeId):Yi g w (jD w g (.cells e t (0,0))):=by refine⟨rfl,rfl,rfl,iD w g _,λk c=>Vt w g _ k c,λo=>?_⟩;rcases ed g w.heap.size with a|a;{simp[World.frozen?,Go.Proofs.YtgnmdaifiodnnaaGreatDoor.jD,a]};exact yo (by rw[iD];exact a) o
def nt.off{w a:World}{g k:Nat}{t:TypeId}{b:M Value}(h:nt w g t b)(d:Yi k w a)(c:g≠k):nt a g t b:=h.ez (d.block g c)
section
variable {P:Program} {N:Nat} {ops:Array Oper} {Kn:Fm->World->Prop} {rest:M Oper} {f:Fm} {w:World} {o:Oper} {S:World->Prop} {s:M (Nat×Bool)} {i:Nat} {K:Fm->World->Prop}
theorem xz.ajC{Q:Exit->Act->World->Prop}{p:Act->World->Prop}(h:xz P N o f w K)(k:∀b l,K b l->p (fr b N) l):o.wp P (fr f N) w p Q:=by
 unfold xz Oper.wp at h;unfold Oper.wp;generalize (execOp (fr f N).eval o).run P w=r at *;cases r with
 |ok n l=>
  cases n<;>simp only[Oper.upon]at h ⊢;(case value v=>obtain⟨b,e,a⟩:=h;rw[e];exact k _ _ a);(case skip=>obtain⟨b,e,a⟩:=h;rw[e];exact k _ _ a);case defer d=>obtain⟨b,e,a⟩:=h;rw[e];exact k _ _ a
  case enter g args=>
   refine Calls.mono h λe m j=>?_;cases e with
   |returned v=>obtain⟨b,e,a⟩:=j;show p _ _;rw[e];exact k _ _ a
   |panicked c=>exact j.elim
   |outgrown=>obtain⟨_,_,h⟩:=j;exact h.elim
  case row r args=>exact Rows.mono h λv m j=>by obtain⟨b,e,a⟩:=j;rw[e];exact k _ _ a
 |halt x l=>cases x<;>simp only[Oper.upon]at h
theorem dK(c:qT N ops f o.guard)(h:xz P N o f w (λd a=>Ls P N ops Kn rest d a)):Ls P N ops Kn (o::rest) f w:=by unfold Ls wpList;rw[if_pos (show Region.wanted o _=I from c)];exact .inl (h.ajC λ_ _ b=>b)
end
section
variable {P:Program} {N:Nat} {f:Fm} {w:World} {K:Fm->World->Prop} {d:Nat} {ty:TypeId} {pos:String} {aft:Array Edge} {gd:u (Nat×Bool)}
theorem cF{op:Op}{v:Value}(a:(execOp (fr f N).eval ⟨Z d,op,ty,pos,aft,gd⟩).run P w=.ok (.value v) w)(h:K (Iu f d v) w):xz P N ⟨Z d,op,ty,pos,aft,gd⟩ f w K:=by unfold xz Oper.wp;rw[a,Oper.upon_value];exact⟨_,rT f N d v,h⟩
theorem Cq{op:Op}{v:Value}{a:World}(b:(execOp (fr f N).eval ⟨Z d,op,ty,pos,aft,gd⟩).run P w=.ok (.value v) a)(h:K (Iu f d v) a):xz P N ⟨Z d,op,ty,pos,aft,gd⟩ f w K:=by unfold xz Oper.wp;rw[b,Oper.upon_value];exact⟨_,rT f N d v,h⟩
theorem Rc{op:Op}{a:World}(b:(execOp (fr f N).eval ⟨O,op,ty,pos,aft,gd⟩).run P w=.ok .skip a)(h:K f a):xz P N ⟨O,op,ty,pos,aft,gd⟩ f w K:=by unfold xz Oper.wp;rw[b,Oper.upon_skip];exact⟨_,rfl,h⟩
theorem yY{op:Op}{g:FuncId}{args:Array Value}(b:(execOp (fr f N).eval ⟨Z d,op,ty,pos,aft,gd⟩).run P w=.ok (.enter g args) w){R:Ending->World->Prop}(j:Calls P g args w R)
  (h:∀e a,R e a->∃v,e=.returned v/\K (Iu f d v) a):xz P N ⟨Z d,op,ty,pos,aft,gd⟩ f w K:=by unfold xz Oper.wp;rw[b,Oper.upon_enter];refine j.mono λe a i=>?_;obtain⟨v,rfl,c⟩:=h e a i;exact⟨_,rT f N d v,c⟩
theorem OO{op:Op}{T:TypeId}{b:M Value}{v:Value}(c:(execOp (fr f N).eval ⟨Z d,op,ty,pos,aft,gd⟩).run P w=.ok (.value v) (w.alloc (.cells b.toArray T)))
  (h:∀a:World,a.heap.size=w.heap.size+1->J2 w.heap.size w a->nt a w.heap.size T b->K (Iu f d v) a):xz P N ⟨Z d,op,ty,pos,aft,gd⟩ f w K:=
 Cq c (h _ (size_alloc _ _) (IF _ _ _) (nt.new _ _ _))
end
attribute [irreducible] xz Ls W
end
section
open Go.RowKit
inductive D where
 |int (k:IntKind) (n:Int)
 |bool (b:Bool)
 |str (s:ByteArray)
 |list (k:Nat) (fl:Bool) (es:List (List D))
abbrev E(n:Int):D:=.int .i64 n
instance:Inhabited D:=⟨.bool J⟩
def D.plain:D->Bool
 | .list _ _ _=>J
 |_=>I
def flat(es:M (M D)):Prop:=∀e∈es,∀x∈e,D.plain x=I
def kR:flat []:=λ_ h=>by simp at h
abbrev Fp:=M (Nat×Nat)
mutual
def Rp(w:World):D->Value->Fp->Prop
 | .int k n,v,F=>v=.int k n/\F=[]/\k.wrap n=n
 | .bool b,v,F=>v=.bool b/\F=[]
 | .str s,v,F=>v=.string s/\F=[]/\s.size<=maxLen
 | .list k i es,v,F=>∃A n c,v=.slice A n c/\n=es.length/\n<=c/\c<=maxLen/\(i=I->flat es)/\0<k/\(∀e∈es,e.length=k)/\
   ((n=0/\F=[])\/(0<n/\∃b o g G,A=Z ⟨b,o,O⟩/\F=(b,o+n * k)::G/\g_ w es g G/\jZ w b o g))
def fR(w:World):List D->List Value->Fp->Prop
 |[],vs,F=>vs=[]/\F=[]
 |d::j,vs,F=>∃v h f a,vs=v::h/\F=f++a/\Rp w d v f/\fR w j h a
def g_(w:World):List (List D)->List Value->Fp->Prop
 |[],vs,F=>vs=[]/\F=[]
 |e::es,vs,F=>∃v1 v2 f a,vs=v1++v2/\F=f++a/\fR w e v1 f/\g_ w es v2 a
end
def vo(F:Fp)(w b:World):Prop:=∀a∈F,∀j,j<a.2->b.cell? ⟨a.1,j,O⟩=w.cell? ⟨a.1,j,O⟩
def vo.left{F G:Fp}{w a:World}(h:vo (F++G) w a):vo F w a:=λc b=>h c (by simp[b])
def vo.right{F G:Fp}{w a:World}(h:vo (F++G) w a):vo G w a:=λc b=>h c (by simp[b])
theorem fR.length{w:World}:∀(a:M D) {vs:M Value} {F:Fp},fR w a vs F->vs.length=a.length
 |[],_,_,h=>by simp only[fR]at h;simp[h.1]
 |d::a,_,_,h=>by simp only[fR]at h;obtain⟨v,c,f,e,rfl,_,_,b⟩:=h;simp[fR.length a b]
theorem g_.length{w:World}{k:Nat}:∀(es:M (M D)) {vs:M Value} {F:Fp},g_ w es vs F->(∀e∈es,e.length=k)->vs.length=es.length * k
 |[],_,_,h,_=>by simp only[g_]at h;simp[h.1]
 |e::es,_,_,h,a=>by simp only[g_]at h;obtain⟨v1,v2,g,f,rfl,_,d,c⟩:=h;simp only[az,aN,fR.length e d,g_.length es c (λx b=>a x (by simp[b])),a e (by simp),ov];omega
def jZ.alL{w d:World}{b o n:Nat}{c:M Value}(h:jZ w b o c)(g:o+c.length<=n)(f:∀j,j<n->d.cell? ⟨b,j,O⟩=w.cell? ⟨b,j,O⟩):jZ d b o c:=by intro j a e;have i:=(br.1 e).1;rw[f (o+j) (by omega)];exact h j a e
mutual
theorem Rp.ez{w a:World}:∀(d:D) {v:Value} {F:Fp},Rp w d v F->vo F w a->Rp a d v F
 | .int _ _,_,_,h,_=>by simpa only [Rp] using h
 | .bool _,_,_,h,_=>by simpa only [Rp] using h
 | .str _,_,_,h,_=>by simpa only [Rp] using h
 | .list k R es,_,_,h,f=>by simp only[Rp]at h ⊢;obtain⟨A,n,c,l,t,j,i,C,L,s,g⟩:=h;refine⟨A,n,c,l,t,j,i,C,L,s,?_⟩;rcases g with g|⟨N,b,o,x,G,g,K,r,y⟩;{exact .inl g};subst K;have B:=g_.length es r s;refine .inr ⟨N,b,o,x,G,g,rfl,g_.ez es r (λQ H=>f Q (by simp[H])),?_⟩;exact y.alL (n:=o+n * k) (by rw[B,t];exact aI _) (f (b,o+n * k) (by simp))
theorem fR.ez{w a:World}:∀(m:List D) {vs:List Value} {F:Fp},fR w m vs F->vo F w a->fR a m vs F
 |[],_,_,h,_=>by simpa only [fR] using h
 |d::m,_,_,h,f=>by simp only[fR]at h ⊢;obtain⟨v,P,q,p,l,rfl,j,i⟩:=h;exact⟨v,P,q,p,l,rfl,Rp.ez d j f.left,fR.ez m i f.right⟩
theorem g_.ez{w a:World}:∀(es:List (List D)) {vs:List Value} {F:Fp},g_ w es vs F->vo F w a->g_ a es vs F
 |[],_,_,h,_=>by simpa only [g_] using h
 |e::es,_,_,h,f=>by simp only[g_]at h ⊢;obtain⟨v1,v2,q,p,l,rfl,j,i⟩:=h;exact⟨v1,v2,q,p,l,rfl,fR.ez e j f.left,g_.ez es i f.right⟩
end
def yU{w:World}{b o:Nat}{v:Value}(h:w.cell? ⟨b,o,O⟩=Z v):b<w.heap.size:=by unfold World.cell? at h;rcases ed b w.heap.size with a|a;{exact a};simp_all
mutual
theorem Rp.lt{w:World}:∀(d:D) {v:Value} {F:Fp},Rp w d v F->∀f∈F,f.1<w.heap.size
 | .int _ _,_,_,h=>by simp only[Rp]at h;simp[h.2.1]
 | .bool _,_,_,h=>by simp only[Rp]at h;simp[h.2]
 | .str _,_,_,h=>by simp only[Rp]at h;simp[h.2.1]
 | .list k R es,_,_,h=>by simp only[Rp]at h;obtain⟨A,n,c,q,H,j,i,P,C,B,g⟩:=h;rcases g with g|⟨K,b,o,m,G,g,y,p,r⟩;{simp[g.2]};subst y;have t:=g_.length es p B;(have s:0<m.length:=by rw[t,<- H];exact Nat.mul_pos K C);have x:=yU (r 0 m[0] (by simp[s]));intro f a;rcases aU.1 a with rfl|a;{exact x};exact g_.lt es p f a
theorem fR.lt{w:World}:∀(l:List D) {vs:List Value} {F:Fp},fR w l vs F->∀f∈F,f.1<w.heap.size
 |[],_,_,h=>by simp only[fR]at h;simp[h.2]
 |d::l,_,_,h=>by simp only[fR]at h;obtain⟨v,Q,N,L,q,rfl,j,i⟩:=h;intro f a;rcases aZ.1 a with a|a;{exact Rp.lt d j f a};exact fR.lt l i f a
theorem g_.lt{w:World}:∀(es:List (List D)) {vs:List Value} {F:Fp},g_ w es vs F->∀f∈F,f.1<w.heap.size
 |[],_,_,h=>by simp only[g_]at h;simp[h.2]
 |e::es,_,_,h=>by simp only[g_]at h;obtain⟨v1,v2,N,L,q,rfl,j,i⟩:=h;intro f a;rcases aZ.1 a with a|a;{exact fR.lt e j f a};exact g_.lt es i f a
end
theorem fR.append{w:World}:∀(a:M D) {es:M D} {vs c:M Value} {F G:Fp},fR w a vs F->fR w es c G->fR w (a++es) (vs++c) (F++G)
 |[],_,_,_,_,_,h,b=>by simp only[fR]at h;obtain⟨rfl,rfl⟩:=h;simpa using b
 |d::a,_,_,_,_,_,h,b=>by obtain⟨v,i,g,j,rfl,rfl,f,e⟩:=h;exact⟨v,_,g,_,rfl,by simp,f,fR.append a e b⟩
theorem g_.append{w:World}:∀(a:M (M D)) {es:M (M D)} {vs c:M Value} {F G:Fp},g_ w a vs F->g_ w es c G->g_ w (a++es) (vs++c) (F++G)
 |[],_,_,_,_,_,h,b=>by simp only[g_]at h;obtain⟨rfl,rfl⟩:=h;simpa using b
 |d::a,_,_,_,_,_,h,b=>by obtain⟨v1,v2,g,i,rfl,rfl,f,e⟩:=h;exact⟨v1,_,g,_,by simp,by simp,f,g_.append a e b⟩
theorem fR.j5{w:World}:∀(b:M D) {es:M D} {vs:M Value} {F:Fp},fR w (b++es) vs F->∃v1 v2 a c,vs=v1++v2/\F=a++c/\fR w b v1 a/\fR w es v2 c
 |[],es,vs,F,h=>⟨[],vs,[],F,rfl,rfl,by simp[fR],by simpa using h⟩
 |d::b,_,_,_,h=>by simp only[ax,fR]at h;obtain⟨v,m,a,c,rfl,rfl,l,k⟩:=h;obtain⟨e,g,f,G2,rfl,rfl,j,i⟩:=fR.j5 b k;exact⟨v::e,g,a++f,G2,by simp,by simp,by simp only[fR];exact⟨v,e,a,f,rfl,rfl,l,j⟩,i⟩
theorem g_.j5{w:World}:∀(b:M (M D)) {es:M (M D)} {vs:M Value} {F:Fp},g_ w (b++es) vs F->∃v1 v2 a c,vs=v1++v2/\F=a++c/\g_ w b v1 a/\g_ w es v2 c
 |[],es,vs,F,h=>⟨[],vs,[],F,rfl,rfl,by simp[g_],by simpa using h⟩
 |d::b,_,_,_,h=>by simp only[ax,g_]at h;obtain⟨v1,v2,a,c,rfl,rfl,l,k⟩:=h;obtain⟨e,g,f,G2,rfl,rfl,j,i⟩:=g_.j5 b k;exact⟨v1++e,g,a++f,G2,by simp,by simp,by simp only[g_];exact⟨v1,e,a,f,rfl,rfl,l,j⟩,i⟩
def g_.at_{w:World}{k:Nat}{es:M (M D)}{vs:M Value}{F:Fp}(h:g_ w es vs F)(c:∀e∈es,e.length=k){i:Nat}{e:M D}(b:es[i]?=Z e) :
  ∃G,fR w e ((vs.drop (i * k)).take k) G/\∀g∈G,g∈F:=by have t:=(br.1 b).1;have o:es=es.take i++(e::es.drop (i+1)):=by{rw[<- br.1 b |>.2,List.getElem_cons_drop,ck]};rw[o]at h;obtain⟨v1,v2,y,v,rfl,rfl,n,f⟩:=g_.j5 _ h;simp only[g_]at f;obtain⟨j,r,q,G2,rfl,rfl,d,s⟩:=f;have p:v1.length=i * k:=by{rw[g_.length _ n (λx l=>c x (ee l)),bo,qC (by omega)]};(have a:j.length=k:=by rw[fR.length _ d];exact c e (fT b));refine⟨q,?_,λg m=>by simp[m]⟩;rw[<- p,List.drop_left,<- a,oc];exact d
theorem fR.at_{w:World}:∀{f:M D} {vs:M Value} {F:Fp},fR w f vs F->∀{i:Nat} {d:D},f[i]?=Z d->∃v G,vs[i]?=Z v/\Rp w d v G/\∀c∈G,c∈F
 |[],_,_,_,i,d,b=>by simp at b
 |x::f,_,_,h,i,d,b=>by simp only[fR]at h;obtain⟨v,o,n,p,rfl,rfl,m,l⟩:=h;cases i with|zero=>{simp at b;subst b;exact⟨v,n,rfl,m,λc e=>by simp[e]⟩}|succ i=>obtain⟨a,G,k,j,g⟩:=fR.at_ l b;exact⟨a,G,by simpa using k,j,λc e=>by simp[g c e]⟩
theorem fR.drop{w:World}:∀(a:M D) {vs:M Value} {F:Fp} (n:Nat),fR w a vs F->∃G,fR w (a.drop n) (vs.drop n) G/\∀b∈G,b∈F
 |a,_,F,0,h=>⟨F,by simpa using h,λ_ h=>h⟩
 |[],_,F,n+1,h=>⟨F,by simp only[fR]at h;simp[fR,h.1,h.2],λ_ h=>h⟩
 |d::a,_,_,n+1,h=>by simp only[fR]at h;obtain⟨v,j,l,k,rfl,rfl,i,g⟩:=h;obtain⟨G,f,e⟩:=fR.drop a n g;exact⟨G,by simpa using f,λb c=>by simp[e b c]⟩
theorem fR.take{w:World}:∀(b:M D) {vs:M Value} {F:Fp} (n:Nat),fR w b vs F->∃G,fR w (b.take n) (vs.take n) G/\∀c∈G,c∈F
 |b,_,F,0,h=>⟨[],by simp[fR],λ_ h=>by simp at h⟩
 |[],_,F,n+1,h=>⟨F,by simp only[fR]at h;simp[fR,h.1,h.2],λ_ h=>h⟩
 |d::b,_,_,n+1,h=>by simp only[fR]at h;obtain⟨v,k,e,l,rfl,rfl,j,i⟩:=h;obtain⟨G,g,f⟩:=fR.take b n i;refine⟨e++G,?_,λc a=>?_⟩;{exact⟨v,_,e,G,rfl,rfl,j,g⟩};rcases aZ.1 a with a|a;{simp[a]};simp[f c a]
theorem fR.plain{w:World}:∀{e:M D} {vs:M Value} {F:Fp},fR w e vs F->(∀x∈e,D.plain x=I)->F=[]
 |[],_,_,h,_=>by simp only[fR]at h;exact h.2
 |d::e,_,_,h,f=>by simp only[fR]at h;obtain⟨v,l,p,o,rfl,rfl,a,i⟩:=h;have c:=fR.plain i (λx g=>f x (by simp[g]));have j:=f d (by simp);cases d with|list k m es=>{simp[D.plain]at j}|int k n=>{simp[Rp]at a;simp[a.2.1,c]}|bool b=>{simp[Rp]at a;simp[a.2,c]}|str s=>simp[Rp]at a;simp[a.2.1,c]
theorem g_.plain{w:World}:∀{es:M (M D)} {vs:M Value} {F:Fp},g_ w es vs F->flat es->F=[]
 |[],_,_,h,_=>by simp only[g_]at h;exact h.2
 |e::es,_,_,h,a=>by simp only[g_]at h;obtain⟨v1,v2,g,f,rfl,rfl,d,c⟩:=h;rw[fR.plain d (a e (by simp)),g_.plain c (λx b=>a x (by simp[b]))];rfl
theorem Rp.vR{w:World}{d:D}{v:Value}{F:Fp}(h:Rp w d v F):one v=I:=by cases d with|int k n=>{simp[Rp]at h;rw[h.1];rfl}|bool b=>{simp[Rp]at h;rw[h.1];rfl}|str s=>{simp[Rp]at h;rw[h.1];rfl}|list k e es=>simp[Rp]at h;obtain⟨A,n,c,a,_⟩:=h;rw[a];rfl
theorem fR.vR{w:World}:∀{c:M D} {vs:M Value} {F:Fp},fR w c vs F->∀v∈vs,one v=I
 |[],_,_,h=>by simp only[fR]at h;simp[h.1]
 |d::c,_,_,h=>by simp only[fR]at h;obtain⟨v,g,j,i,rfl,rfl,f,e⟩:=h;intro a b;rcases aU.1 b with rfl|b;{exact f.vR};exact fR.vR e a b
theorem g_.vR{w:World}:∀{es:M (M D)} {vs:M Value} {F:Fp},g_ w es vs F->∀v∈vs,one v=I
 |[],_,_,h=>by simp only[g_]at h;simp[h.1]
 |e::es,_,_,h=>by simp only[g_]at h;obtain⟨v1,v2,g,f,rfl,rfl,d,c⟩:=h;intro a b;rcases aZ.1 b with b|b;{exact d.vR a b};exact g_.vR c a b
end
structure Row where
 es:List (List D)
 k:Nat
 fl:Bool
 deep:Bool
 app:Bool
 fz:Bool
inductive C where
 |d (x:D)
 |nil (k:Nat) (fl:Bool)
 |ref (r:Nat)
 |ptr (b o:Nat)
 |pG (r k i o:Nat)
 |vi (cs:List D)
 |agg (cs:List C)
 |tw (cs:List C)
 |fn (F:Nat) (bs:List Nat)
 |wD
 |any
instance:Inhabited C:=⟨.any⟩
mutual
def C.kill(i:Nat):C->C
 | .ref r=>if r=i then .any else .ref r
 | .ptr b o=>if b=i then .any else .ptr b o
 | .pG r k a o=>if r=i then .any else .pG r k a o
 | .agg cs=>.agg (C.jS i cs)
 | .tw cs=>.tw (C.jS i cs)
 | .fn F e=>if e.contains i then .any else .fn F e
 |c=>c
def C.jS(i:Nat):List C->List C
 |[]=>[]
 |c::cs=>C.kill i c::C.jS i cs
end
inductive RV where
 |d (x:D)
 |row (r:Row)
inductive A where
 |val (agg:Bool) (cs:List RV)
 |box (cs:List RV)
structure St where
 sl:List (Nat×C)
 bx:List (Nat×List C)
 rw:List (Nat×Row)
def look{a:Type}:M (Nat×a)->Nat->u a
 |[],_=>O
 |(k,x)::l,d=>if k=d then Z x else look l d
def sy{a:Type}(l:M (Nat×a))(d:Nat):M (Nat×a):=l.filter (λp=>p.1 !=d)
def Tu(i:Nat)(l:M (Nat×C)):M (Nat×C):=l.map λp=>(p.1,p.2.kill i)
def Tt(i:Nat)(l:M (Nat×M C)):M (Nat×M C):=l.map λp=>(p.1,C.jS i p.2)
def St.kill(s:St)(i:Nat):St:=⟨Tu i s.sl,Tt i s.bx,s.rw⟩
def St.get(s:St)(d:Nat):C:=(look s.sl d).getD .any
def St.put(s:St)(a:u Nat)(c:C):St:=
 match a with
 |some d=>{s with sl:=(d,c)::s.sl }
 |none=>s
def St.gA(s:St)(b:Nat)(a:M C):St:={s with bx:=(b,a)::sy s.bx b }
def St.setRow(s:St)(r:Nat)(x:Row):St:={s with rw:=(r,x)::sy s.rw r }
def St.dP(s:St)(r:Nat):St:={s with rw:=sy s.rw r }
def St.j8(s:St)(b:Nat)(a:M C):St:=(s.kill b).gA b a
def St.newRow(s:St)(r:Nat)(x:Row):St:=(s.kill r).setRow r x
def vm(d j:Nat):Nat:=1000 * (d+1)+j
inductive KX where
 |s (d:Nat)
 |k (c:C)
def gG(s:St):KX->C
 | .s d=>s.get d
 | .k c=>c
def C.cells:C->M C
 | .agg cs=>cs
 |c=>[c]
def nth{a:Type}:M a->Nat->u a
 |[],_=>O
 |x::_,0=>Z x
 |_::l,i+1=>nth l i
def C.const:C->Bool
 | .d x=>D.plain x
 | .nil _ _=>I
 |_=>J
def C.cell:C->Bool
 | .d _=>I
 | .nil _ _=>I
 | .ref _=>I
 |_=>J
def HN:St->M C->u (M D×Bool×St)
 |s,[]=>Z ([],I,s)
 |s,c::cs=>
  match c with
  | .d x=>(HN s cs).map λ(b,e,a)=>(x::b,D.plain x && e,a)
  | .nil k f=>(HN s cs).map λ(b,e,a)=>(.list k f []::b,e,a)
  | .ref r=>
   match look s.rw r with
   |some x=>(HN (s.dP r) cs).map λ(b,e,a)=>(.list x.k x.fl x.es::b,x.deep && !x.fz && e,a)
   |none=>O
  |_=>O
def db(a:M D):Bool:=a.all D.plain
def EH(k:Nat)(d:Bool):St->M C->u (M (M D)×Bool×St)
 |s,[]=>Z ([],I,s)
 |s,c::cs=>
  match HN s c.cells with
  |some (a,g,e)=>if a.length=k/\(d=I->db a=I) then (EH k d e cs).map λ(es,b,f)=>(a::es,g && b,f) else O
  |none=>O
def room:Nat:=140737488355328
inductive KO where
 |mv (x:KX)
 |pick (c x y:KX)
 |alloc (zs:List C)
 |box (x:KX)
 |build (zs:List C) (ps:List (Nat×Nat×KX))
 |uX (k:Nat) (fl:Bool) (xs:List KX)
 |make (k by_:Nat) (fl:Bool) (zs:List D) (x:KX)
 |ld (n:Nat) (x:KX)
 |st (n:Nat) (x y:KX)
 |fa (o:Nat) (x:KX)
 |ia (k:Nat) (x i:KX)
 |six (x i:KX)
 |bin (op:BinOp) (x y:KX)
 |XU (op:BinOp) (x y:KX)
 |not (x:KX)
 |neg (x:KX)
 |conv (k:IntKind) (x:KX)
 |len (x:KX)
 |sln (x:KX)
 |app (k by_:Nat) (fl:Bool) (x y:KX)
 |min (x y:KX)
 |max (x y:KX)
 |ext (x:KX) (i:Nat)
 |slc (x hi:KX)
 |nck (x:KX)
 |PI (x:KX)
 |call (f:Nat) (xs:List KX)
 |cbx (f:Nat) (xs:List KX)
 |MQ (x:KX) (lo hi:Option KX)
 |AO (k:Nat) (x:KX) (lo hi:Option KX)
 |ixa (n k:Nat) (x i:KX)
 |IT (k:Nat) (x y:KX)
 |zro (zs:List C)
 |jn (x y:KX)
 |TO (x:KX)
 |mkf (F:Nat) (xs:List KX)
 |fld (o:Nat) (x:KX)
 |MI (nd:Bool) (f F:Nat) (x y:KX)
structure KI where
 dst:Option Nat
 op:KO
 gd:Option (Nat×Bool)
structure KD where
 j:Nat
 q:Bool
 al:List Nat
 dn:List Nat
 i:KI
inductive KT where
 |nil
 |op (x:KD) (t:KT)
 |alt (x:KD) (t r:KT)
structure oy where
 s:List Nat
 b:List Nat
 r:List Nat
inductive K where
 |skip
 |Uf (ops:List KI) (kp:oy)
 |Zh (ops:KT) (kp:oy)
 |seq (a b:K)
 |cond (c:KX) (a b:K)
 |block (id:Nat) (a:K)
 |loop (a:K)
 |exit (id:Nat)
 |ret
 |share (r:Nat) (a:K)
 |DN (d:Nat) (a:K)
inductive Ex where
 |norm
 |exit (id:Nat)
 |ret
def YE(op:BinOp)(k:IntKind)(a b:Int):u D:=
 match op with
 | .add=>Z (.int k (k.wrap (a+b)))
 | .sub=>Z (.int k (k.wrap (a - b)))
 | .mul=>Z (.int k (k.wrap (a * b)))
 | .lss=>Z (.bool (Z' (a<b)))
 | .leq=>Z (.bool (Z' (a<=b)))
 | .gtr=>Z (.bool (Z' (b<a)))
 | .geq=>Z (.bool (Z' (b<=a)))
 | .eql=>Z (.bool (Z' (a=b)))
 | .neq=>Z (.bool (!Z' (a=b)))
 | .quo=>if k=.i64/\0<=a/\1<=b then Z (.int k (a / b)) else if k=.i64/\a<0/\1<=b then Z (.int k (-(-a / b))) else O
 | .rem=>if k=.i64/\0<=a/\1<=b then Z (.int k (a % b)) else if k=.i64/\a<0/\1<=b then Z (.int k (-(-a % b))) else O
 | .and=>Z (.int k (k.wrap (BitVec.ofInt k.bits a &&& BitVec.ofInt k.bits b).toNat))
 | .xor=>Z (.int k (k.wrap (BitVec.ofInt k.bits a ^^^ BitVec.ofInt k.bits b).toNat))
 |_=>O
def ai2(op:BinOp)(k:IntKind)(a b:Int):u D:=
 match op with
 | .shr=>if k=.i64/\0<=b/\b<=63 then Z (.int k (a / 2 ^ b.toNat)) else O
 |_=>O
def nL(a b:z):Bool:=Op.bytesLess a.toList b.toList
def YF(op:BinOp)(a b:z):u D:=
 match op with
 | .add=>if a.size+b.size<=maxLen then Z (.str (a++b)) else O
 | .eql=>Z (.bool (Z' (a=b)))
 | .neq=>Z (.bool (!Z' (a=b)))
 | .lss=>Z (.bool (nL a b))
 | .leq=>Z (.bool (nL a b ||decide (a=b)))
 | .gtr=>Z (.bool (!(nL a b ||decide (a=b))))
 | .geq=>Z (.bool (!nL a b))
 |_=>O
def YD(op:BinOp)(a b:Bool):u D:=
 match op with
 | .eql=>Z (.bool (Z' (a=b)))
 | .neq=>Z (.bool (!Z' (a=b)))
 |_=>O
def UR(op:BinOp):C->C->u C
 | .d (.int k a),.d (.int c b)=>if k=c then (YE op k a b).map .d else (ai2 op k a b).map .d
 | .d (.str a),.d (.str b)=>(YF op a b).map .d
 |_,_=>O
def mY(s:St):C->u RV
 | .d x=>Z (.d x)
 | .nil k a=>Z (.d (.list k a []))
 | .ref r=>(look s.rw r).map λx=>.d (.list x.k x.fl x.es)
 |_=>O
def j_(s:St):C->u RV
 | .d x=>Z (.d x)
 | .nil k a=>Z (.row ⟨[],k,a,I,I,J⟩)
 | .ref r=>(look s.rw r).map .row
 |_=>O
def gN{a β:Type}(f:a->u β):M a->u (M β)
 |[]=>Z []
 |x::xs=>match f x with
  |some y=>(gN f xs).map (y::·)
  |none=>O
def C.isAgg:C->Bool
 | .agg _=>I
 |_=>J
def RW(s:St)(c:C):u A:=
 match c with
 | .ptr b 0=>match look s.bx b with
  |some a=>(gN (j_ s) a).map .box
  |none=>O
 |c=>(gN (mY s) c.cells).map (.val c.isAgg)
def wC(s:St):M C->u (M A)
 |[]=>Z []
 |c::cs=>match RW s c with
  |some a=>(wC s cs).map (a::·)
  |none=>O
def rowsOf:M C->M Nat
 |[]=>[]
 | .ref r::cs=>r::rowsOf cs
 |_::cs=>rowsOf cs
def oH(s:St):C->M Nat
 | .ptr b 0=>rowsOf ((look s.bx b).getD [])
 |_=>[]
def dz(s:St):M C->M Nat
 |[]=>[]
 |c::cs=>oH s c++dz s cs
def il:M C->M Nat
 |[]=>[]
 |c::cs=>rowsOf c.cells++il cs
def cN:M C->M Nat
 |[]=>[]
 | .ptr b _::cs=>b::cN cs
 |_::cs=>cN cs
def RV.closed:RV->Bool
 | .d x=>D.plain x
 | .row r=>r.deep
def A.closed:A->Bool
 | .val _ cs=>cs.all RV.closed
 | .box cs=>cs.all RV.closed
def Row.share(r:Row):Row:={r with fz:=I,deep:=r.fl }
def eM(s:St):M Nat->St
 |[]=>s
 |r::rs=>match look s.rw r with
  |some x=>eM (s.setRow r x.share) rs
  |none=>eM s rs
def er(d:Nat):Nat->M RV->St->M C×St
 |_,[],s=>([],s)
 |j,.d x::cs,s=>let (l,a):=er d (j+1) cs s;(.d x::l,a)
 |j,.row r::cs,s=>let (l,a):=er d (j+1) cs (s.newRow (vm d j) r);(.ref (vm d j)::l,a)
def l6(s:St):M C->M A->St
 | .ptr b 0::cs,.box vs::outs=>let (l,a):=er (b+500) 0 vs s;l6 (a.gA b l) cs outs
 | .ptr _ 0::_,_=>s
 |_::cs,outs=>l6 s cs outs
 |[],_=>s
def iL(d:Nat):Nat->M A->St->M C×St
 |_,[],s=>([],s)
 |q,.val c vs::rs,s=>
  let (l,b):=er d (30 * q) vs s
  let (m,a):=iL d (q+1) rs b
  ((if c then .agg l else l.headD .any)::m,a)
 |_,.box _::_,s=>([],s)
def k8:M Nat->Bool
 |[]=>I
 |x::xs=>!xs.contains x && k8 xs
def iu(s:St):M Nat->St
 |[]=>s
 |r::rs=>iu (s.dP r) rs
def nS{a:Type}(l:M a)(o:Nat)(n:M a):M a:=l.take o++n++l.drop (o+n.length)
def A.isVal:A->Bool
 | .val _ _=>I
 | .box _=>J
def A.short:A->Bool
 | .val _ cs=>jX cs.length 30
 | .box _=>J
def gj(s:St):M Nat->St
 |[]=>s
 |b::a=>gj {s with bx:=sy s.bx b } a
def CV(a:M C):M (Nat×Nat×M C)->u (M C)
 |[]=>Z a
 |(o,n,cs)::b=>if cs.length=n/\o+n<=a.length/\cs.all C.cell=I then CV (nS a o cs) b else O
def AN:M C->M Nat
 |[]=>[]
 |c::cs=>rowsOf c.cells++AN cs
def qU(s:St)(a:M C):M Nat:=cN a++dz s a++il a
def bytesOf:M (M D)->u (M Int)
 |[]=>Z []
 |[.int .u8 n]::es=>(bytesOf es).map (n::·)
 |_=>O
def afm(s:St):C->u D
 | .d x=>match x with
  | .list k a []=>Z (.list k a [])
  | .list _ _ _=>O
  |x=>Z x
 | .nil k a=>Z (.list k a [])
 | .ref r=>match look s.rw r with
  |some row=>if row.deep=I/\row.fz=J then Z (.list row.k row.fl row.es) else O
  |none=>O
 |_=>O
def YO(s:St):M C->u (M D)
 |[]=>Z []
 |c::cs=>match afm s c with
  |some x=>(YO s cs).map (x::·)
  |none=>O
def YA(s:St):M C->M D->St->u St
 |[],[],acc=>Z acc
 | .ref r::cs,.list k b es::a,acc=>match look s.rw r with
  |some row=>if k=row.k/\b=row.fl then YA s cs a (acc.setRow r ⟨es,row.k,row.fl,I,J,J⟩) else O
  |none=>O
 | .ref _::_,_,_=>O
 |_::cs,_::a,acc=>YA s cs a acc
 |_,_,_=>O
def vt(f:M A->u (M A×M A))(g:Bool):M (M D)->M A->u (M A×M A)
 |[],c=>Z ([.val J [.d (.bool J)]],c)
 |e::es,c=>match f (.val g (e.map .d)::c) with
  |some ([.val J [.d (.bool b)]],outs)=>if outs.all (λa=>!a.isVal)=I then (if b then Z ([.val J [.d (.bool I)]],outs) else vt f g es outs) else O
  |_=>O
def yh(b:Bool)(e:M A->u (M A×M A)):M A->u (M A×M A)
 | .val J [.d (.list k _ es)]::c=>if k=(if b then 3 else 1)/\c.all (λa=>!a.isVal)=I then vt e b es c else O
 |_=>O
def GZ:M C->u (M Nat)
 |[]=>Z []
 | .ptr b 0::cs=>(GZ cs).map (b::·)
 |_=>O
section
variable (cf:Nat->M A->u (M A×M A)) (mf:Nat->Bool->M D->Int->u (M D×Int))
def nW(s:St)(d:u Nat)(f:Nat)(a:M C):u St:=
 match wC s a with
 |none=>O
 |some as=>
  if k8 (dz s a) && k8 (cN a) && (dz s a).all (λr=>!(il a).contains r) then
   match cf f as with
   |none=>O
   |some (rs,outs)=>if rs.all A.short then
    let h:=if rs.all A.closed && outs.all A.closed then s else eM s (il a)
    let g:=gj (iu h (dz s a)) (cN a)
    let e:=l6 g a outs
    let (l,b):=iL (d.getD 0) 0 rs e
    Z (b.put d (match l with|[c]=>c|l=>.tw l))
    else O
  else O
def Cs(s:St)(o:u KX)(a:Nat):u Nat:=
 match o with
 |none=>Z a
 |some e=>match gG s e with
  | .d (.int .i64 n)=>if 0<=n then Z n.toNat else O
  |_=>O
def jl(s:St):KO->u C
 | .mv x=>Z (gG s x)
 | .pick c x y=>match gG s c with
  | .d (.bool b)=>Z (if b then gG s x else gG s y)
  |_=>O
 | .build g w=>(CV g (w.map λp=>(p.1,p.2.1,(gG s p.2.2).cells))).map .agg
 | .ld n x=>match gG s x with
  | .ptr b o=>match look s.bx b with
   |some f=>if n=0 then nth f o else if o+n<=f.length then Z (.agg ((f.drop o).take n)) else O
   |none=>O
  | .vi f=>if n=0 then (nth f 0).map .d else if n<=f.length then Z (.agg ((f.take n).map .d)) else O
  | .pG r k i o=>match look s.rw r with
   |some row=>match nth row.es i with
    |some e=>if row.k=k/\o+max n 1<=k/\(db ((e.drop o).take (max n 1)) ||!row.deep)=I then
      (if n=0 then (nth e o).map .d else Z (.agg (((e.drop o).take n).map .d))) else O
    |none=>O
   |none=>O
  |_=>O
 | .fa o x=>match gG s x with
  | .ptr b p=>Z (.ptr b (p+o))
  | .vi f=>Z (.vi (f.drop o))
  | .pG r k i p=>Z (.pG r k i (p+o))
  |_=>O
 | .ia k x i=>match gG s x,gG s i with
  | .d (.list l _ es),.d (.int .i64 n)=>if 0<=n/\l=k then (nth es n.toNat).map .vi else O
  | .ref r,.d (.int .i64 n)=>match look s.rw r with
   |some row=>if 0<=n/\n.toNat<row.es.length/\row.k=k then Z (.pG r k n.toNat 0) else O
   |none=>O
  |_,_=>O
 | .zro g=>if g.all C.const then Z (.agg g) else O
 | .ixa n k x i=>match gG s x,gG s i with
  | .ptr b o,.d (.int .i64 m)=>if 0<=m/\m.toNat<n then Z (.ptr b (o+m.toNat * k)) else O
  |_,_=>O
 | .six x i=>match gG s x,gG s i with
  | .d (.str t),.d (.int .i64 n)=>if 0<=n/\n.toNat<t.size then Z (.d (.int .u8 (bY t n.toNat))) else O
  |_,_=>O
 | .bin op x y=>UR op (gG s x) (gG s y)
 | .XU op x y=>match gG s x,gG s y with
  | .d (.bool a),.d (.bool b)=>(YD op a b).map .d
  |_,_=>O
 | .not x=>match gG s x with
  | .d (.bool b)=>Z (.d (.bool (!b)))
  |_=>O
 | .neg x=>match gG s x with
  | .d (.int k a)=>Z (.d (.int k (k.wrap (-a))))
  |_=>O
 | .conv k x=>match gG s x with
  | .d (.int _ a)=>Z (.d (.int k (k.wrap a)))
  |_=>O
 | .len x=>match gG s x with
  | .d (.list _ _ es)=>Z (.d (.int .i64 es.length))
  | .nil _ _=>Z (.d (.int .i64 0))
  | .ref r=>match look s.rw r with
   |some row=>Z (.d (.int .i64 row.es.length))
   |none=>O
  |_=>O
 | .sln x=>match gG s x with
  | .d (.str t)=>Z (.d (.int .i64 t.size))
  |_=>O
 | .min x y=>match gG s x,gG s y with
  | .d (.int .i64 a),.d (.int .i64 b)=>Z (.d (.int .i64 (if b<a then b else a)))
  |_,_=>O
 | .max x y=>match gG s x,gG s y with
  | .d (.int .i64 a),.d (.int .i64 b)=>Z (.d (.int .i64 (if a<b then b else a)))
  |_,_=>O
 | .ext x i=>match gG s x with
  | .tw f=>nth f i
  |_=>O
 | .fld o x=>match gG s x with
  | .agg f=>nth f o
  |_=>O
 | .mkf F h=>(GZ (h.map (gG s))).map (.fn F)
 | .slc x y=>match gG s x,gG s y with
  | .d (.list k v es),.d (.int .i64 n)=>if 0<=n/\n.toNat<=es.length then Z (.d (.list k v (es.take n.toNat))) else O
  |_,_=>O
 | .MQ x j q=>match gG s x with
  | .d (.str t)=>match Cs s j 0,Cs s q t.size with
   |some a,Z b=>if a<=b/\b<=t.size then Z (.d (.str (t.extract a b))) else O
   |_,_=>O
  |_=>O
 | .AO l x j q=>match gG s x with
  | .d (.list k v es)=>match Cs s j 0,Cs s q es.length with
   |some a,Z b=>if k=l/\a<=b/\b<=es.length then Z (.d (.list k v ((es.take b).drop a))) else O
   |_,_=>O
  |_=>O
 | .nck x=>match gG s x with
  | .ptr b o=>Z (.ptr b o)
  | .vi f=>Z (.vi f)
  | .pG r k i o=>Z (.pG r k i o)
  |_=>O
 | .PI x=>match gG s x with
  | .ref r=>match look s.rw r with
   |some row=>if row.k=1 then (bytesOf row.es).map λh=>.d (.str ⟨(h.map λn=>dW n.toNat).toArray⟩) else O
   |none=>O
  |_=>O
 |_=>O
mutual
def C.iQ(q i:Nat):C->C
 | .ref r=>if r=q then .ref i else if r=i then .any else .ref r
 | .pG r k a o=>if r=q then .pG i k a o else if r=i then .any else .pG r k a o
 | .agg cs=>.agg (C.Cx q i cs)
 | .tw cs=>.tw (C.Cx q i cs)
 |c=>c
def C.Cx(q i:Nat):List C->List C
 |[]=>[]
 |c::cs=>C.iQ q i c::C.Cx q i cs
end
def abH(q i:Nat)(l:M (Nat×C)):M (Nat×C):=l.map λp=>(p.1,p.2.iQ q i)
def abG(q i:Nat)(l:M (Nat×M C)):M (Nat×M C):=l.map λp=>(p.1,C.Cx q i p.2)
def St.iQ(s:St)(q i:Nat)(row:Row):St:=⟨abH q i s.sl,abG q i s.bx,(i,row)::sy (sy s.rw q) i⟩
def lg:M (M D)->u (M Bool)
 |[]=>Z []
 |[.bool b]::es=>(lg es).map (b::·)
 |_=>O
def dN:M Bool->M Bool->M Bool
 |a::as,b::c=>(a ||b)::dN as c
 |as,_=>as
def nB:M Bool->M Bool->Bool
 |a::as,b::c=>(b && !a) ||nB as c
 |_,_=>J
def Jk(s:St)(r:Nat):C->u (M (M D))
 | .d (.list 1 _ es)=>Z es
 | .ref q=>match look s.rw q with
  |some row=>if row.k=1/\q≠r then Z row.es else O
  |none=>O
 |_=>O
def oQ(s:St)(k:Nat)(a:Bool):C->u (M (M D)×Bool×St)
 | .d (.list c b es)=>if c=k/\b=a then Z (es,a,s) else O
 | .nil _ _=>Z ([],I,s)
 | .ref q=>match look s.rw q with
  |some row=>if row.k=k/\row.fl=a then Z (row.es,(row.deep && !row.fz) ||a,s.dP q) else O
  |none=>O
 |_=>O
def Qi(s:St):C->C
 | .ref r=>match look s.rw r with
  |some x=>.d (.list x.k x.fl x.es)
  |none=>.ref r
 | .nil k a=>.d (.list k a [])
 |c=>c
def sI(s:St)(d:Nat):u St:=
 match s.get d with
 | .ref r=>match look s.rw r with
  |some x=>Z ((eM s [r]).put (Z d) (.d (.list x.k x.fl x.es)))
  |none=>O
 | .nil k c=>Z (s.put (Z d) (.d (.list k c [])))
 | .ptr b 0=>match look s.bx b with
  |some a=>Z ((eM s (rowsOf a)).gA b (a.map (Qi s)))
  |none=>Z s
 |_=>Z s
def ml(cf:Nat->M A->u (M A×M A))(mf:Nat->Bool->M D->Int->u (M D×Int))(s:St)(d:u Nat):KO->u St
 | .alloc m=>match d with
  |some b=>if m.all C.const then Z ((s.j8 b m).put d (.ptr b 0)) else O
  |none=>O
 | .box x=>match d with
  |some b=>if (gG s x).cells.all C.cell then Z ((s.j8 b (C.jS b (gG s x).cells)).put d (.ptr b 0)) else O
  |none=>O
 | .uX k a xs=>match d with
  |some r=>match EH k a s (xs.map (gG s)) with
   |some (es,j,h)=>if 0<k then Z ((h.newRow r ⟨es,k,a,j,I,J⟩).put d (.ref r)) else O
   |none=>O
  |none=>O
 | .make k g a m x=>match d,gG s x with
  |some r,.d (.int .i64 n)=>if 0<=n/\n.toNat * g<=room/\n<=4611686018427387904 then Z ((s.newRow r ⟨a_ n.toNat m,k,a,I,I,J⟩).put d (.ref r)) else O
  |_,_=>O
 | .st n x y=>match gG s x with
  | .ptr b o=>match look s.bx b with
   |some l=>if (gG s y).cells.all C.cell=I/\(gG s y).cells.length=n/\o+n<=l.length then Z (s.gA b (nS l o (gG s y).cells)) else O
   |none=>O
  | .pG r k i o=>match HN s (gG s y).cells with
   |some (w,j,h)=>match look h.rw r with
    |some row=>match nth row.es i with
     |some e=>if row.k=k/\row.fz=J/\row.app=I/\w.length=n/\o+n<=k/\(row.fl=I->db w=I)/\(j ||!row.deep)=I then
       Z (h.setRow r {row with es:=row.es.set i (nS e o w) }) else O
     |none=>O
    |none=>O
   |none=>O
  |_=>O
 | .app k g a x y=>match d with
  |none=>O
  |some d0=>match oQ s k a (gG s y) with
   |none=>O
   |some (es,j,h)=>match gG s x with
    | .nil v t=>if v=k/\t=a/\es.length * g<=room/\es.length<=maxLen then Z ((h.newRow d0 ⟨es,k,a,j,I,J⟩).put d (.ref d0)) else O
    | .ref r=>match look h.rw r with
     |some row=>if row.k=k/\row.fl=a/\row.app=I/\(row.es.length+es.length) * g<=room/\row.es.length+es.length<=maxLen then
       Z ((h.newRow r {row with es:=row.es++es,deep:=row.deep && j }).put d (.ref r)) else O
     |none=>O
    |_=>O
 | .call f xs=>nW cf s d f (xs.map (gG s))
 | .cbx f xs=>match d,wC s (xs.map (gG s)) with
  |some b,Z as=>if as.all A.isVal then (match cf f as with
    |some ([.box vs],[])=>Z (((er (b+500) 0 vs (eM s (il (xs.map (gG s))))).2.j8 b (er (b+500) 0 vs (eM s (il (xs.map (gG s))))).1).put (Z b) (.ptr b 0))
    |_=>O) else O
  |_,_=>O
 | .IT k x y=>match d,gG s x,gG s y with
  |some d0,.ref r,.d (.list v t es)=>match look s.rw r with
   |some row=>if row.k=k/\v=k/\t=I/\row.fl=I/\row.fz=J/\row.app=I/\es.length=row.es.length then
     Z ((s.setRow r {row with es:=es }).put (Z d0) (.d (.int .i64 es.length))) else O
   |none=>O
  |_,_,_=>O
 | .TO x=>match d with
  |some d0=>match gG s x with
   | .ref q=>match look s.rw q with
    |some row=>Z ((s.iQ q (vm d0 0) row).put (Z d0) (.ref (vm d0 0)))
    |none=>O
   |c=>Z (s.put (Z d0) c)
  |none=>O
 | .jn x y=>match d,gG s x with
  |some d0,.ref r=>match look s.rw r,Jk s r (gG s y) with
   |some row,Z es=>if row.k=1/\row.fl=I/\row.fz=J/\row.app=I/\es.length=row.es.length then
     (match lg row.es,lg es with
     |some p,Z l=>if es≠[] then Z ((s.setRow r {row with es:=(dN p l).map λb=>[D.bool b] }).put (Z d0) (.d (.bool (nB p l)))) else O
     |_,_=>O) else O
   |_,_=>O
  |_,_=>O
 | .MI B f F x y=>match gG s y with
  | .fn G p=>if G=F then nW (λ_=>yh B (cf f)) s d 0 (gG s x::p.map λb=>.ptr b 0) else O
  |_=>O
 |_=>O
def KO.qk:KO->Bool
 | .alloc _=>J
 | .box _=>J
 | .uX _ _ _=>J
 | .make _ _ _ _ _=>J
 | .st _ _ _=>J
 | .app _ _ _ _ _=>J
 | .call _ _=>J
 | .cbx _ _=>J
 | .IT _ _ _=>J
 | .jn _ _=>J
 | .TO _=>J
 | .MI _ _ _ _ _=>J
 |_=>I
def DW(s:St)(d:u Nat)(o:KO):u St:=
 if o.qk then (jl s o).map (s.put d) else ml cf mf s d o
def wR(s:St)(i:KI):u St:=
 match i.gd with
 |none=>DW cf mf s i.dst i.op
 |some (g,want)=>match s.get g with
  | .d (.bool b)=>if b=want then DW cf mf s i.dst i.op else Z (s.put i.dst .wD)
  | .wD=>Z (s.put i.dst .wD)
  |_=>O
def nh:M KI->St->u St
 |[],s=>Z s
 |i::is,s=>match wR cf mf s i with
  |some a=>nh is a
  |none=>O
def KO.QS:KO->Bool
 | .ld _ _=>I
 | .PI _=>I
 |_=>J
def rk(s:St):KO->u (u Nat)
 | .ld _ x=>match gG s x with
  | .ptr b _=>Z (Z b)
  | .vi _=>Z O
  |_=>O
 | .PI _=>O
 |_=>Z O
def gm(s:St)(d:u Nat):KO->M Nat
 | .st _ x y=>(match gG s x with
   | .ptr b _=>[b]
   | .pG r _ _ _=>r::rowsOf (gG s y).cells
   |_=>[])
 | .uX _ _ xs=>d.toList++AN (xs.map (gG s))
 | .app _ _ _ x y=>d.toList++rowsOf [gG s x]++rowsOf [gG s y]
 | .call f xs=>qU s (xs.map (gG s))
 | .MI _ _ _ x y=>(match gG s y with
   | .fn _ a=>qU s (gG s x::a.map λb=>.ptr b 0)
   |_=>[])
 | .IT _ x _=>d.toList++rowsOf [gG s x]
 | .jn x _=>d.toList++rowsOf [gG s x]
 |_=>d.toList
def qp(c:M Nat)(a:M (M Nat×Nat)):u Nat->M (M Nat×Nat)
 |some b=>(c,b)::a
 |none=>a
def kC(j:Nat)(a:M (M Nat×Nat)):M (M Nat×Nat):=a.filter λp=>!p.1.contains j
def jo{a:Type}(l:M (Nat×a)):M Nat->M (Nat×a)
 |[]=>[]
 |d::b=>match look l d with
  |some x=>(d,x)::jo l b
  |none=>jo l b
def St.ez(s:St)(a:oy):St:=⟨jo s.sl a.s,jo s.bx a.b,jo s.rw a.r⟩
def nM(x:KD)(a:M (M Nat×Nat))(s:St)(k:M (M Nat×Nat)->St->u St):u St:=
 match wR cf mf s x.i with
 |some b=>if (kC x.j a).all (λp=>!(gm s x.i.dst x.i.op).contains p.2 && (look b.bx p.2).isSome && !(x.i.dst ==Z p.2)) then k (kC x.j a) b else O
 |none=>O
open Classical in
noncomputable def both{c:Type}:u c->u c->u c
 |some a,Z b=>if a=b then Z a else O
 |_,_=>O
noncomputable def ib(e:oy):KT->M (M Nat×Nat)->St->u St
 | .nil,_,s=>Z (s.ez e)
 | .op ⟨j,quiet,h,f,i⟩ is,a,s=>
  if quiet then
   (match i.gd with
   |none=>(match jl s i.op,rk s i.op with
    |some c,Z b=>ib e is (qp f a b) (s.put i.dst c)
    |_,_=>O)
   |some (g,want)=>match s.get g with
    | .d (.bool t)=>if t=want then (match jl s i.op,rk s i.op with
      |some c,Z b=>ib e is (qp f a b) (s.put i.dst c)
      |_,_=>O) else ib e is a (s.put i.dst .wD)
    | .wD=>ib e is a (s.put i.dst .wD)
    |_=>O)
  else nM cf mf ⟨j,quiet,h,f,i⟩ a s (ib e is)
 | .alt x is r,a,s=>both (nM cf mf x a s (ib e is)) (ib e r a s)
def iter(f:St->u (Ex×St)):Nat->St->u (Ex×St)
 |0,_=>O
 |n+1,s=>match f s with
  |some (.norm,a)=>iter f n a
  |r=>r
noncomputable def jj(n:Nat):K->St->u (Ex×St)
 | .skip,s=>Z (.norm,s)
 | .Uf ops f,s=>match nh cf mf ops s with
  |some e=>Z (.norm,e.ez f)
  |none=>O
 | .Zh ops f,s=>match ib cf mf f ops [] s with
  |some e=>Z (.norm,e)
  |none=>O
 | .seq a b,s=>match jj n a s with
  |some (.norm,e)=>jj n b e
  |r=>r
 | .cond c a b,s=>match gG s c with
  | .d (.bool t)=>if t then jj n a s else jj n b s
  |_=>O
 | .block id a,s=>match jj n a s with
  |some (.exit i,e)=>if i=id then Z (.norm,e) else Z (.exit i,e)
  |r=>r
 | .loop a,s=>iter (jj n a) n s
 | .exit id,s=>Z (.exit id,s)
 | .ret,s=>Z (.ret,s)
 | .share r a,s=>jj n a (eM s [r])
 | .DN d a,s=>match sI s d with
  |some e=>jj n a e
  |none=>O
end
inductive KR where
 |t (d:Nat)
 |b (d:Nat)
 |c (d n:Nat)
structure KF where
 np:Nat
 body:K
 res:List KR
def Bu(p:Nat)(a:A)(s:St):St:=
 match a with
 | .val c vs=>let (l,b):=er p 0 vs s;b.put (Z p) (if c then .agg l else l.headD .any)
 | .box vs=>let (l,b):=er (p+1400) 0 vs s;(b.j8 (900+p) l).put (Z p) (.ptr (900+p) 0)
def lU:Nat->M A->St->St
 |_,[],s=>s
 |p,a::as,s=>lU (p+1) as (Bu p a s)
def G9 (s : St) : KR -> u (A × M Nat)
  | .t d => (gN (j_ s) (s.get d).cells).map λvs => (.val (s.get d).isAgg vs, rowsOf (s.get d).cells)
  | .b _ => O
  | .c d n => match s.get d with
   | .ptr b 0 => match look s.bx b with
    | some cs => if n = 0 then (match cs with
        | [c] => (gN (j_ s) cs).map λvs => (.val J vs, rowsOf cs)
        | _ => O)
      else if cs.length = n then (gN (j_ s) cs).map λvs => (.val I vs, rowsOf cs) else O
    | none => O
   | _ => O
def yb(s:St):M KR->u (M A×M Nat)
 |[]=>Z ([],[])
 |r::rs=>match G9 s r with
  |some (a,l)=>(yb s rs).map λ(as,b)=>(a::as,l++b)
  |none=>O
def Xe(s:St)(p:Nat):A->u (M A×M Nat)
 | .val _ _=>Z ([],[])
 | .box _=>match look s.bx (900+p) with
  |some a=>(gN (j_ s) a).map λvs=>([.box vs],rowsOf a)
  |none=>O
def wo(s:St):Nat->M A->u (M A×M Nat)
 |_,[]=>Z ([],[])
 |p,a::as=>match Xe s p a with
  |some (l,r)=>(wo s (p+1) as).map λ(c,b)=>(l++c,r++b)
  |none=>O
def yR(a:M KR)(args:M A)(s:St):u (M A×M A):=
 match a with
 |[.b d]=>if args.all A.isVal then (match s.get d with
  | .ptr b 0=>match look s.bx b with
   |some c=>if k8 (rowsOf c) then (gN (j_ s) c).map λvs=>([.box vs],[]) else O
   |none=>O
  |_=>O) else O
 |_=>O
def leave(a:KF)(args:M A)(s:St):u (M A×M A):=
 match yb s a.res,wo s 0 args with
 |some (rs,l),Z (outs,b)=>if k8 (l++b) then Z (rs,outs) else O
 |_,_=>yR a.res args s
noncomputable def Iq(c:Nat->M A->u (M A×M A))(b:Nat->Bool->M D->Int->u (M D×Int))(n:Nat)(a:KF)(args:M A):u (M A×M A):=
 if args.length=a.np then
  match jj c b n a.body (lU 0 args ⟨[],[],[]⟩) with
  |some (.norm,s)=>leave a args s
  |some (.ret,s)=>leave a args s
  |_=>O
 else O
def W8(t:z):M (M D)->Int->u Int
 |[],_=>Z (-1)
 |(.str s::_)::es,i=>if s=t then Z i else W8 t es (i+1)
 |_,_=>O
def XT(f:Nat)(as:M A):u (M A×M A):=
 if f=9001 then (match as with
  |[.val J [.d (.int .i64 n)]]=>Z ([.val J [.d (.str ⟨(Lib.itoa n).toArray⟩)]],[])
  |_=>O)
 else if f=9002 then (match as with
  |[.val J [.d (.str s)],.val J [.d (.int .u8 c)]]=>Z ([.val J [.d (.int .i64 (Lib.indexByte s.data.toList c.toNat.toUInt8))]],[])
  |_=>O)
 else if f=9003 then (match as with
  |[.val J [.d (.list 3 a es)],.val J [.d (.str t)]]=>(W8 t es 0).map λi=>([.val J [.d (.int .i64 i)]],[])
  |_=>O)
 else O
noncomputable def CU(T:Nat->u KF):Nat->Nat->M A->u (M A×M A)
 |0,_,_=>O
 |n+1,f,args=>match T f with
  |none=>O
  |some a=>if a.np=999 then XT f args else Iq (CU T n) (λ_ _ _ _=>O) n a args
section
open Go.RowKit
inductive Own where
 |free
 |box (b:Nat)
 |row (r:Nat)
 |fK
 deriving DecidableEq
structure Gh where
 h:Nat->Nat
 β:Nat->Nat
 sl:Nat->Value
 ω:Nat->Own
def dY(h:Nat->Nat)(F:Fp):Prop:=∀a∈F,a.2<=h a.1
def vq(w:World)(g:Nat):Prop:=g<w.heap.size/\∀j,w.frozen? ⟨g,j,O⟩=J
mutual
def CR(γ:Gh)(w:World):C->Value->Prop
 | .d x,v=>∃F,Rp w x v F/\dY γ.h F
 | .nil k _,v=>v=.slice O 0 0/\0<k
 | .ref r,v=>v=γ.sl r/\∃A n c,v=.slice A n c
 | .ptr b o,v=>v=.pointer (Z ⟨γ.β b,o,O⟩)
 | .pG r k i o,v=>∃g p n c,γ.sl r=.slice (Z ⟨g,p,O⟩) n c/\v=.pointer (Z ⟨g,p+i * k+o,O⟩)
 | .vi cs,v=>∃b o vs F,v=.pointer (Z ⟨b,o,O⟩)/\fR w cs vs F/\dY γ.h F/\jZ w b o vs/\∀j,j<cs.length->o+j<γ.h b
 | .agg cs,v=>∃vs,v=.agg vs.toArray/\fi γ w cs vs
 | .tw cs,v=>∃vs,v=.tuple vs.toArray/\fi γ w cs vs
 | .fn F e,v=>v=.func (.func F) #[] (e.map λb=>Value.pointer (Z ⟨γ.β b,0,O⟩)).toArray
 | .wD,v=>v=undef
 | .any,_=>True
def fi(γ:Gh)(w:World):List C->List Value->Prop
 |[],vs=>vs=[]
 |c::cs,vs=>∃v a,vs=v::a/\CR γ w c v/\fi γ w cs a
end
def sF(h:Nat->Nat)(w:World)(x:Row)(v:Value)(F:M Nat):Prop:=
 ∃A n c,v=.slice A n c/\n=x.es.length/\n<=c/\c<=maxLen/\0<x.k/\(∀e∈x.es,e.length=x.k)/\(x.fl=I->flat x.es)/\
  ((A=O/\c=0/\F=[])\/
   ∃g o a G,A=Z ⟨g,o,O⟩/\g<w.heap.size/\vq w g/\g_ w x.es a G/\jZ w g o a/\h g<=o+n * x.k/\(x.fz=J->h g=0)/\
    (x.app=I->o=0/\∃T vs,nt w g T vs/\vs.length=c * x.k)/\
    (x.deep=I->F=g::G.map fU/\∀b∈G,h b.1=0/\vq w b.1)/\(x.deep=J->F=[g]/\dY h G))
structure Inv (γ:Gh) (h0:Nat->Nat) (io:List Nat) (w0:World) (s:St) (f:Fm) (w:World):Prop where
 sl:∀d c,look s.sl d=some c->CR γ w c (f d)
 bx:∀b cs,look s.bx b=some cs->∃T vs,nt w (γ.β b) T vs/\fi γ w cs vs/\γ.ω (γ.β b)=.box b
 rw:∀r x,look s.rw r=some x->∃F,sF γ.h w x (γ.sl r) F/\F.Nodup/\∀g∈F,γ.ω g=.row r
 own:∀g,γ.ω g≠.free->g<w.heap.size/\(w0.heap.size<=g\/g∈io)
 nQ:∀g b,γ.ω g=.box b->γ.h g=0
 fN:∀g,w.heap.size<=g->γ.h g=0
 os:w.os=w0.os
 tape:w.tape=w0.tape
 output:w.output=w0.output
 size:w0.heap.size<=w.heap.size
 frame:∀g,g<w0.heap.size->g∉io->w.heap[g]?=w0.heap[g]?
 cell:∀g j,g<w0.heap.size->j<h0 g->w.cell? ⟨g,j,none⟩=w0.cell? ⟨g,j,none⟩
 mono:∀g,g<w0.heap.size->h0 g<=γ.h g
 hold:∀g,g<w0.heap.size->g∉io->γ.h g=h0 g
 jq:∀g,vq w0 g->vq w g
section
variable {α:Type}
theorem fO(l:M (Nat×α))(d e:Nat):look (sy l d) e=if d=e then O else look l e:=by induction l with|nil=>{simp[sy,look]}|cons p l b=>obtain⟨k,x⟩:=p;unfold sy at b ⊢;by_cases h:k=d;{subst h;simp only[kN,bne_self_eq_false,aL,if_false,b,look];by_cases a:k=e<;>simp[a]};(have c:(k !=d)=I:=by simp[h]);simp only[kN,c,if_true,look,b];by_cases a:k=e;{subst a;simp[ow h]};simp[a]
theorem s6(l:M (Nat×α)):∀(a:M Nat) (e:Nat) (x:α),look (jo l a) e=Z x->look l e=Z x
 |[],e,x,h=>by simp[jo,look]at h
 |d::a,e,x,h=>by unfold jo at h;cases hd:look l d with|none=>{rw[hd]at h;exact s6 l a e x h}|some y=>rw[hd]at h;simp only[look]at h;split at h;{rename_i b;subst b;rw[hd];exact h};exact s6 l a e x h
end
theorem yT(i:Nat)(l:M (Nat×C))(d:Nat):look (Tu i l) d=(look l d).map (C.kill i):=by induction l with|nil=>{rfl}|cons p l a=>obtain⟨k,x⟩:=p;unfold Tu at a ⊢;simp only[bc,look,a];split<;>rfl
theorem yS(i:Nat)(l:M (Nat×M C))(d:Nat):look (Tt i l) d=(look l d).map (C.jS i):=by induction l with|nil=>{rfl}|cons p l a=>obtain⟨k,x⟩:=p;unfold Tt at a ⊢;simp only[bc,look,a];split<;>rfl
def dY.mono{h a:Nat->Nat}{F:Fp}(b:dY h F)(c:∀g,h g<=a g):dY a F:=λe d=>aV (b e d) (c _)
def dY.keeps{h:Nat->Nat}{F:Fp}{w a:World}(b:dY h F)(d:∀g j,j<h g->a.cell? ⟨g,j,O⟩=w.cell? ⟨g,j,O⟩):vo F w a:=
 λf e j c=>d _ j (bZ c (b f e))
def dY.sub{h:Nat->Nat}{F G:Fp}(b:dY h F)(c:∀a∈G,a∈F):dY h G:=λa d=>b a (c a d)
def dY.append{h:Nat->Nat}{F G:Fp}(c:dY h F)(d:dY h G):dY h (F++G):=λb a=>by rcases aZ.1 a with a|a;{exact c b a};exact d b a
mutual
theorem CR.move{γ l:Gh}{w A:World}(i:Nat)(p:∀g,γ.h g<=l.h g)(q:∀g j,j<γ.h g->A.cell? ⟨g,j,O⟩=w.cell? ⟨g,j,O⟩)(y:∀b,b≠i->l.β b=γ.β b)(s:∀r,r≠i->l.sl r=γ.sl r) :
  ∀(c:C) {v:Value},CR γ w c v->CR l A (C.kill i c) v
 | .d x,v,h=>by simp only[CR,C.kill]at h ⊢;obtain⟨F,n,m⟩:=h;exact⟨F,n.ez x (m.keeps q),m.mono p⟩
 | .nil _ _,v,h=>by simpa only [CR,C.kill] using h
 | .ref r,v,h=>by simp only[C.kill];split;{simp only[CR]};rename_i t;simp only[CR]at h ⊢;rw[s r t];exact h
 | .ptr b o,v,h=>by simp only[C.kill];split;{simp only[CR]};rename_i t;simp only[CR]at h ⊢;rw[y b t];exact h
 | .pG r k a o,v,h=>by simp only[C.kill];split;{simp only[CR]};rename_i t;simp only[CR]at h ⊢;rw[s r t];exact h
 | .vi cs,v,h=>by simp only[CR,C.kill]at h ⊢;obtain⟨b,o,vs,F,n,m,D,L,H⟩:=h;refine⟨b,o,vs,F,n,m.ez cs (D.keeps q),D.mono p,?_,λj B=>bZ (H j B) (p b)⟩;intro j f G;have B:=(br.1 G).1;rw[fR.length cs m]at B;rw[q b (o+j) (H j B)];exact L j f G
 | .agg cs,v,h=>by simp only[CR,C.kill]at h ⊢;obtain⟨vs,n,m⟩:=h;exact⟨vs,n,fi.move i p q y s cs m⟩
 | .tw cs,v,h=>by simp only[CR,C.kill]at h ⊢;obtain⟨vs,n,m⟩:=h;exact⟨vs,n,fi.move i p q y s cs m⟩
 | .fn F P,v,h=>by simp only[C.kill];split;{simp only[CR]};rename_i t;simp only[CR]at h ⊢;rw[h,qB λb K=>?_];rw[y b λe=>t (by rw[<- e];simpa using K)]
 | .wD,v,h=>by simpa only [CR,C.kill] using h
 | .any,v,h=>by simp only[CR,C.kill]
theorem fi.move{γ l:Gh}{w A:World}(i:Nat)(p:∀g,γ.h g<=l.h g)(q:∀g j,j<γ.h g->A.cell? ⟨g,j,O⟩=w.cell? ⟨g,j,O⟩)(y:∀b,b≠i->l.β b=γ.β b)(s:∀r,r≠i->l.sl r=γ.sl r) :
  ∀(cs:List C) {vs:List Value},fi γ w cs vs->fi l A (C.jS i cs) vs
 |[],vs,h=>by simpa only [fi,C.jS] using h
 |c::cs,vs,h=>by simp only[fi,C.jS]at h ⊢;obtain⟨v,N,n,m,D⟩:=h;exact⟨v,N,n,CR.move i p q y s c m,fi.move i p q y s cs D⟩
end
mutual
theorem CR.mono{γ γ':Gh}{w q:World}(l:∀g,γ.h g<=γ'.h g)(m:∀g j,j<γ.h g->q.cell? ⟨g,j,O⟩=w.cell? ⟨g,j,O⟩)(p:γ'.β=γ.β)(n:γ'.sl=γ.sl) :
  ∀(c:C) {v:Value},CR γ w c v->CR γ' q c v
 | .d x,v,h=>by simp only[CR]at h ⊢;obtain⟨F,i,f⟩:=h;exact⟨F,i.ez x (f.keeps m),f.mono l⟩
 | .nil _ _,v,h=>by simpa only [CR] using h
 | .ref r,v,h=>by simp only[CR]at h ⊢;rw[n];exact h
 | .ptr b o,v,h=>by simp only[CR]at h ⊢;rw[p];exact h
 | .pG r k a o,v,h=>by simp only[CR]at h ⊢;rw[n];exact h
 | .vi cs,v,h=>by simp only[CR]at h ⊢;obtain⟨b,o,vs,F,i,f,t,B,A⟩:=h;refine⟨b,o,vs,F,i,f.ez cs (t.keeps m),t.mono l,?_,λj s=>bZ (A j s) (l b)⟩;intro j e y;have s:=(br.1 y).1;rw[fR.length cs f]at s;rw[m b (o+j) (A j s)];exact B j e y
 | .agg cs,v,h=>by simp only[CR]at h ⊢;obtain⟨vs,i,f⟩:=h;exact⟨vs,i,fi.mono l m p n cs f⟩
 | .tw cs,v,h=>by simp only[CR]at h ⊢;obtain⟨vs,i,f⟩:=h;exact⟨vs,i,fi.mono l m p n cs f⟩
 | .fn F G,v,h=>by simp only[CR]at h ⊢;rw[p];exact h
 | .wD,v,h=>by simpa only [CR] using h
 | .any,v,h=>by simp only[CR]
theorem fi.mono{γ γ':Gh}{w q:World}(l:∀g,γ.h g<=γ'.h g)(m:∀g j,j<γ.h g->q.cell? ⟨g,j,O⟩=w.cell? ⟨g,j,O⟩)(p:γ'.β=γ.β)(n:γ'.sl=γ.sl) :
  ∀(cs:List C) {vs:List Value},fi γ w cs vs->fi γ' q cs vs
 |[],vs,h=>by simpa only [fi] using h
 |c::cs,vs,h=>by simp only[fi]at h ⊢;obtain⟨v,D,i,f,t⟩:=h;exact⟨v,D,i,CR.mono l m p n c f,fi.mono l m p n cs t⟩
end
theorem sF.ez{h r:Nat->Nat}{w k:World}{x:Row}{v:Value}{F:M Nat}(y:sF h w x v F)(i:∀g∈F,r g=h g/\k.heap[g]?=w.heap[g]?)(H:∀g,h g<=r g)(K:∀g j,j<h g->k.cell? ⟨g,j,O⟩=w.cell? ⟨g,j,O⟩):sF r k x v F:=by obtain⟨A,n,c,V,U,S,R,Q,P,N,q⟩:=y;refine⟨A,n,c,V,U,S,R,Q,P,N,?_⟩;rcases q with q|⟨g,o,s,G,a1,a2,a3,a4,a5,Y,X,W,a9,l⟩;{exact .inl q};have p:g∈F:=by{cases hd:x.deep with|true=>{rw[(a9 hd).1];simp}|false=>rw[(l hd).1];simp};have f:=(i g p).2;have D:vo G w k:=by{cases hd:x.deep with|false=>{exact (l hd).2.keeps K}|true=>intro a d j _;exact World.cell?_of_block (w:=w) (i a.1 (by rw[(a9 hd).1];simp;exact .inr ⟨a.2,d⟩)).2};refine .inr ⟨g,o,s,G,a1,LP a2 f,?_,a4.ez _ D,a5.ez f,by rw[(i g p).1];exact Y,λb=>by rw[(i g p).1];exact X b,?_,?_,?_⟩;{exact⟨LP a2 f,λj=>by rw[World.frozen?_of_block (w:=w) f];exact a3.2 j⟩};{intro L;obtain⟨B,T,vs,t,C⟩:=W L;exact⟨B,T,vs,t.ez f,C⟩};{intro hd;obtain⟨e,b⟩:=a9 hd;refine⟨e,λa d=>?_⟩;have m:=i a.1 (by rw[e];simp;exact .inr ⟨a.2,d⟩);refine⟨by rw[m.1];exact (b a d).1,LP (b a d).2.1 m.2,λj=>?_⟩;rw[World.frozen?_of_block (w:=w) m.2];exact (b a d).2.2 j};intro hd;obtain⟨e,b⟩:=l hd;exact⟨e,b.mono H⟩
structure Bc (γ:Gh) (M:Own->Prop) (w w':World):Prop where
 os:w'.os=w.os
 tape:w'.tape=w.tape
 output:w'.output=w.output
 size:w.heap.size<=w'.heap.size
 block:∀g,g<w.heap.size->¬M (γ.ω g)->w'.heap[g]?=w.heap[g]?
 cell:∀g j,j<γ.h g->w'.cell? ⟨g,j,none⟩=w.cell? ⟨g,j,none⟩
 jq:∀g,vq w g->vq w' g
section
variable {γ:Gh} {h0:Nat->Nat} {io:M Nat} {w0:World} {s:St} {f:Fm} {w:World}
theorem Inv.CX(i:Inv γ h0 io w0 s f w){c:World}{a:Own->Prop}(e:Bc γ a w c):∀g j,j<γ.h g->c.cell? ⟨g,j,O⟩=w.cell? ⟨g,j,O⟩:=e.cell
theorem Inv.Yl(a:Inv γ h0 io w0 s f w){q:World}{M:Own->Prop}(i:Bc γ M w q)(C:¬M .free)(D:∀b,M (.box b)->look s.bx b=O)(B:∀r,M (.row r)->look s.rw r=O):Inv γ h0 io w0 s f q where
 sl d c l:=(a.sl d c l).mono (γ':=γ) (λ_=>aI _) i.cell rfl rfl c
 bx b cs l:=by obtain⟨T,vs,n,p,m⟩:=a.bx b cs l;refine⟨T,vs,n.ez (i.block _ n.lt ?_),p.mono (γ':=γ) (λ_=>aI _) i.cell rfl rfl cs,m⟩;rw[m];intro o;rw[D b o]at l;cases l
 rw r x l:=by obtain⟨F,n,p,m⟩:=a.rw r x l;refine⟨F,n.ez (λg e=>⟨rfl,i.block g (a.own g (by rw[m g e];simp)).1 ?_⟩) (λ_=>aI _) i.cell,p,m⟩;rw[m g e];intro o;rw[B r o]at l;cases l
 own g e:=⟨bZ (a.own g e).1 i.size,(a.own g e).2⟩
 nQ:=a.nQ
 fN g e:=a.fN g (aV i.size e)
 os:=i.os.trans a.os
 tape:=i.tape.trans a.tape
 output:=i.output.trans a.output
 size:=aV a.size i.size
 frame g e t:=by refine (i.block g (bZ e a.size) ?_).trans (a.frame g e t);have:γ.ω g=.free:=by{rcases jY (γ.ω g=.free) with h|h;{exact h};rcases (a.own g h).2 with A|A;{omega};exact absurd A t};rw[this];exact C
 cell g j e y:=(i.cell g j (bZ y (a.mono g e))).trans (a.cell g j e y)
 mono:=a.mono
 hold:=a.hold
 jq g e:=i.jq g (a.jq g e)
theorem Inv.sub(e:Inv γ h0 io w0 s f w){a:St}(j:∀d c,look a.sl d=Z c->look s.sl d=Z c)(i:∀d c,look a.bx d=Z c->look s.bx d=Z c)(g:∀d c,look a.rw d=Z c->look s.rw d=Z c):Inv γ h0 io w0 a f w:=
 {e with sl:=λd c h=>e.sl d c (j d c h),bx:=λd c h=>e.bx d c (i d c h),rw:=λd c h=>e.rw d c (g d c h) }
theorem Inv.get(a:Inv γ h0 io w0 s f w)(d:Nat):CR γ w (s.get d) (f d):=by unfold St.get;cases h:look s.sl d with|none=>{simp[CR]}|some c=>exact a.sl d c h
theorem Inv.put(g:Inv γ h0 io w0 s f w)(d:Nat)(c:C)(v:Value)(i:CR γ w c v):Inv γ h0 io w0 (s.put (Z d) c) (Iu f d v) w:=
 {g with
  sl:=λe l h=>by
   simp only[St.put,look]at h;by_cases a:d=e
   .subst a;simp at h;subst h
    simpa [Iu] using i
   .rw[if_neg a]at h;have:Iu f d v e=f e:=by
     unfold Iu;cases j:gI e d
     .rfl
     .exact absurd (o0 j).symm a
    rw[this];exact g.sl e l h }
theorem Inv.settle(a:Inv γ h0 io w0 s f w){h':Nat->Nat}{ω':Nat->Own}(m:∀g,γ.h g<=h' g)(o:∀g,h' g≠γ.h g->g<w.heap.size/\(w0.heap.size<=g\/g∈io)/\(∀b j,look s.bx b=Z j->γ.ω g≠.box b)/\∀r x,look s.rw r=Z x->γ.ω g≠.row r)
  (n:∀g,ω' g=γ.ω g\/((ω' g=.free\/ω' g=.fK)/\γ.ω g≠.free/\(∀b j,look s.bx b=Z j->γ.ω g≠.box b)/\∀r x,look s.rw r=Z x->γ.ω g≠.row r)) (y:∀g b,ω' g=.box b->h' g=0):Inv {γ with h:=h',ω:=ω' } h0 io w0 s f w where
 sl d c i:=(a.sl d c i).mono (γ':={γ with h:=h',ω:=ω' }) m (λ_ _ _=>rfl) rfl rfl c
 bx b j i:=by obtain⟨T,vs,q,p,l⟩:=a.bx b j i;refine⟨T,vs,q,p.mono (γ':={γ with h:=h',ω:=ω' }) m (λ_ _ _=>rfl) rfl rfl j,?_⟩;rcases n (γ.β b) with h|⟨_,_,h,_⟩;{exact h.trans l};exact absurd l (h b j i)
 rw r x i:=by obtain⟨F,q,p,l⟩:=a.rw r x i;refine⟨F,q.ez (λg e=>⟨?_,rfl⟩) m (λ_ _ _=>rfl),p,λg e=>?_⟩;{rcases jY (h' g=γ.h g) with h|h;{exact h};exact absurd (l g e) ((o g h).2.2.2 r x i)};rcases n g with h|⟨_,_,_,h⟩;{exact h.trans (l g e)};exact absurd (l g e) (h r x i)
 own g e:=by rcases n g with h|⟨_,h,_⟩;{exact a.own g (by rw[<- h];exact e)};exact a.own g h
 nQ:=y
 fN g e:=by rcases jY (h' g=γ.h g) with h|h;{exact h.trans (a.fN g e)};have:=(o g h).1;omega
 os:=a.os
 tape:=a.tape
 output:=a.output
 size:=a.size
 frame:=a.frame
 cell:=a.cell
 mono g e:=aV (a.mono g e) (m g)
 hold g e t:=by rcases jY (h' g=γ.h g) with h|h;{exact h.trans (a.hold g e t)};rcases (o g h).2.1 with h'|h';{omega};exact absurd h' t
 jq:=a.jq
end
end
section
open Go.RowKit
def lS(N:Nat):Operand->KX->Bool
 | .tmp d,.s f=>d ==f && eP d N
 | .const (.int k n),.k (.d (.int e c))=>k ==e && n ==c && k.wrap n ==n
 | .const (.bool b),.k (.d (.bool g))=>b ==g
 | .const (.string s),.k (.d (.str a))=>s.data.toList ==a.data.toList && jX s.size maxLen
 | .const (.slice O 0 0),.k (.nil k _)=>eP 0 k
 | .const _,.k .any=>I
 |_,_=>J
section
variable {γ:Gh} {h0:Nat->Nat} {io:M Nat} {w0:World} {s:St} {f:Fm} {w:World} {N:Nat}
theorem jC{k:IntKind}{n:Int}(h:k.wrap n=n):CR γ w (.d (.int k n)) (.int k n):=by simp only[CR,Rp];exact⟨[],by simp[h],λ_ h=>by simp at h⟩
theorem jG{b:Bool}:CR γ w (.d (.bool b)) (.bool b):=by simp only[CR,Rp];exact⟨[],by simp,λ_ h=>by simp at h⟩
theorem CB{t:z}(h:t.size<=maxLen):CR γ w (.d (.str t)) (.string t):=by simp only[CR,Rp];exact⟨[],by simp[h],λ_ h=>by simp at h⟩
theorem l7{k:IntKind}{n:Int}{v:Value}(h:CR γ w (.d (.int k n)) v):v=.int k n/\k.wrap n=n:=by simp only[CR,Rp]at h;grind
theorem tN{b:Bool}{v:Value}(h:CR γ w (.d (.bool b)) v):v=.bool b:=by simp only[CR,Rp]at h;grind
theorem Ez{t:z}{v:Value}(h:CR γ w (.d (.str t)) v):v=.string t/\t.size<=maxLen:=by simp only[CR,Rp]at h;grind
theorem Me{a b:z}(h:a.data.toList=b.data.toList):a=b:=by cases a;simp_all
theorem cZ(b:Inv γ h0 io w0 s f w){x:Operand}{kx:KX}(ok:lS N x kx=I):CR γ w (gG s kx) ((fr f N).eval x):=by unfold lS at ok;split at ok;{simp only[aw,beq_iff_eq]at ok;obtain⟨rfl,hd⟩:=ok;rw[S5 f (by simpa using hd)];exact b.get _};{simp only[aw,beq_iff_eq]at ok;obtain⟨⟨rfl,rfl⟩,a⟩:=ok;exact jC a};{simp only[beq_iff_eq]at ok;subst ok;exact jG};{simp only[aw,beq_iff_eq,Nat.ble_eq]at ok;obtain⟨c,a⟩:=ok;rw[Me c]at a ⊢;exact CB a};{simp only[jO]at ok;simp only[gG,CR];exact⟨rfl,ok⟩};{simp only[gG,CR]};cases ok
end
structure sG (γ:Gh) (s:St) (w w':World):Prop where
 cell:∀g j,j<γ.h g->w'.cell? ⟨g,j,none⟩=w.cell? ⟨g,j,none⟩
 bx:∀b cs,look s.bx b=some cs->w'.heap[γ.β b]?=w.heap[γ.β b]?
 rw:∀r x,look s.rw r=some x->∀g,γ.ω g=.row r->w'.heap[g]?=w.heap[g]?
def sG.refl(a:Gh)(s:St)(w:World):sG a s w w:=⟨λ_ _ _=>rfl,λ_ _ _=>rfl,λ_ _ _ _ _=>rfl⟩
def GP(N:Nat):M Operand->M KX->Bool
 |[],[]=>I
 |x::xs,y::ys=>lS N x y && GP N xs ys
 |_,_=>J
theorem AA{b:Gh}{g:Nat->Nat}{e:M Nat}{d:World}{s:St}{f:Fm}{w:World}{N:Nat}(c:Inv b g e d s f w):∀(a:M Operand) (ys:M KX),GP N a ys=I->fi b w (ys.map (gG s)) (a.map (fr f N).eval)
 |[],[],_=>by simp[fi]
 |[],_::_,h=>by simp[GP]at h
 |_::_,[],h=>by simp[GP]at h
 |x::a,y::ys,h=>by simp only[GP,aw]at h;simp only[bc,fi];exact⟨_,_,rfl,cZ c h.1,AA c a ys h.2⟩
def okZ:Value->C->Bool
 | .int k n,.d (.int e c)=>k ==e && n ==c && k.wrap n ==n
 | .bool b,.d (.bool f)=>b ==f
 | .string s,.d (.str a)=>s.data.toList ==a.data.toList && jX s.size maxLen
 | .slice O 0 0,.nil k _=>eP 0 k
 |_,_=>J
def LW:M Value->M C->Bool
 |[],[]=>I
 |v::vs,c::cs=>okZ v c && LW vs cs
 |_,_=>J
theorem AB{d:Gh}{w:World}:∀(vs:M Value) (b:M C),LW vs b=I->fi d w b vs
 |[],[],_=>by simp[fi]
 |[],_::_,h=>by simp[LW]at h
 |_::_,[],h=>by simp[LW]at h
 |v::vs,c::b,h=>by simp only[LW,aw]at h;simp only[fi];refine⟨v,vs,rfl,?_,AB vs b h.2⟩;have ok:=h.1;unfold okZ at ok;split at ok;{simp only[aw,beq_iff_eq]at ok;obtain⟨⟨rfl,rfl⟩,a⟩:=ok;exact jC a};{simp only[beq_iff_eq]at ok;subst ok;exact jG};{simp only[aw,beq_iff_eq,Nat.ble_eq]at ok;obtain⟨e,a⟩:=ok;rw[Me e]at a ⊢;exact CB a};{simp only[jO]at ok;simp only[CR];exact⟨trivial,ok⟩};cases ok
def J7(P:Program)(T:TypeId):u Bool:=
 match P.underlying T with
 |some (.struct _)=>Z I
 |some (.array _ _)=>Z I
 |some _=>Z J
 |none=>O
def qn(P:Program)(T:TypeId):u Nat:=(P.info? T).map (·.size)
theorem tm{P:Program}{T:TypeId}{b:Bool}(h:J7 P T=Z b)(w:World):(isAgg T).run P w=.ok b w:=by unfold J7 at h;cases a:P.underlying T with|none=>{rw[a]at h;cases h}|some d=>rw[a]at h;cases d<;>simp at h<;>subst h<;>simp[isAgg,run_underlying a]
theorem run_sizeOf{P:Program}{T:TypeId}{n:Nat}(h:qn P T=Z n)(w:World):(pe T).run P w=.ok n w:=by unfold qn at h;cases a:P.info? T with|none=>{rw[a]at h;cases h}|some i=>rw[a]at h;simp at h;subst h;simp[pe,typeInfo,a]
def ZQ(P:Program)(T:TypeId)(i o:Nat):Bool:=
 match P.underlying T with
 |some (.struct fs)=>match fs[i]? with
  |some a=>a.offset ==o && (match qn P a.type with
   |some n=>eP 0 n
   |none=>J)
  |none=>J
 |_=>J
def agJ(P:Program)(T:TypeId)(i o:Nat):Bool:=
 match P.underlying T with
 |some (.struct fs)=>match fs[i]? with
  |some a=>a.offset ==o && J7 P a.type ==Z J
  |none=>J
 |_=>J
def sliceB(P:Program)(T:TypeId)(k:Nat):Bool:=
 match P.underlying T with
 |some (.slice a)=>qn P a ==Z k
 |_=>J
def aj9(P:Program)(T:TypeId)(n k:Nat):Bool:=
 match P.underlying T with
 |some (.array m a)=>m ==n && qn P a ==Z k
 |_=>J
def aj_(P:Program)(T:TypeId):Bool:=
 match P.underlying T with
 |some (.array _ a)=>(P.info? a).isSome
 |_=>J
def isStr(P:Program)(T:TypeId):Bool:=
 match P.underlying T with
 |some .string=>I
 |_=>J
def QT(P:Program)(T:TypeId):Bool:=
 match P.underlying T with
 |some (.slice _)=>I
 |_=>J
def Md(P:Program)(T:TypeId):u Nat:=
 match P.underlying T with
 |some (.slice a)=>qn P a
 |_=>O
def ahe(P:Program)(T:TypeId):Bool:=
 match P.underlying T with
 |some (.slice a)=>(match P.underlying a with
  |some (.int .u8)=>I
  |_=>J)
 |_=>J
def isBool(P:Program)(T:TypeId):Bool:=
 match P.underlying T with
 |some .bool=>I
 |_=>J
def ads(P:Program)(T:TypeId):u IntKind:=
 match P.underlying T with
 |some (.int k)=>Z k
 |_=>O
def xl(P:Program)(T:TypeId):u (M (Nat×Nat)):=
 match P.underlying T with
 |some (.struct fs)=>fs.toList.mapM (λf=>(P.info? f.type).map λi=>(f.offset,i.size))
 |_=>O
def u0(P:Program)(T:TypeId):u (M Value):=((P.info? T).bind (·.zero)).map λa=>a.cells.toList
def xg(N:Nat)(pl:M (Nat×Nat)):M (Nat×Operand)->M (Nat×Nat×KX)->Bool
 |[],[]=>I
 |(i,x)::a,(o,n,kx)::b=>pl[i]? ==Z (o,n) && lS N x kx && xg N pl a b
 |_,_=>J
def Rh(N:Nat):u Operand->u KX->Bool
 |none,O=>I
 |some x,Z y=>lS N x y
 |_,_=>J
theorem AE{e:Gh}{l:Nat->Nat}{h:M Nat}{g:World}{s:St}{f:Fm}{w:World}{N:Nat}(k:Inv e l h g s f w){o:u Operand}{kx:u KX}{a m:Nat}(c:Rh N o kx=I)(b:Cs s kx a=Z m):P3 (fr f N).eval o a m:=by cases o with|none=>{cases kx with|none=>{simp only[Cs,ao]at b;exact b.symm}|some y=>simp[Rh]at c}|some x=>cases kx with|none=>{simp[Rh]at c}|some y=>have d:=cZ k c;simp only[Cs]at b;split at b;{rename_i n j;rw[j]at d;obtain⟨i,_⟩:=l7 d;split at b;{simp only[ao]at b;simp only[P3,i];congr 1;omega};cases b};cases b
def Ay(P:Program)(N:Nat):Op->KO->Bool
 | .move x,.mv y=>lS N x y
 | .assign x,.mv y=>lS N x y
 | .pick c a b,.pick v A w=>lS N c v && lS N a A && lS N b w
 | .build T p,.build m t=>(match u0 P T,xl P T with
   |some d,Z pl=>LW d m && xg N pl p.toList t
   |_,_=>J)
 | .load T x,.ld n y=>lS N x y && (if n=0 then J7 P T ==Z J else J7 P T ==Z I && qn P T ==Z n)
 | .fieldAddr T x i,.fa o y=>lS N x y && ZQ P T i o
 | .indexAddr T x i,.ia k y j=>lS N x y && lS N i j && sliceB P T k
 | .build T p,.zro m=>p.isEmpty && aj_ P T && (match u0 P T with
   |some d=>LW d m
   |none=>J)
 | .indexAddr T x i,.ixa n k y j=>lS N x y && lS N i j && aj9 P T n k
 | .index T x i,.six y j=>lS N x y && lS N i j && isStr P T
 | .binOp op T x y _,.bin g f e=>Z' (op=g) && lS N x f && lS N y e
 | .binOp op T x y _,.XU g f e=>Z' (op=g) && lS N x f && lS N y e && isBool P T
 | .unOp .not _ x,.not y=>lS N x y
 | .unOp .neg _ x,.neg y=>lS N x y
 | .convert T s x,.conv k y=>lS N x y && (ads P T).isSome && ads P s ==Z k
 | .call c,.len y=>(match c.callee,c.args.toList,c.argTypes.toList with
   | .builtin .len,[x],[T]=>lS N x y && QT P T
   |_,_,_=>J)
 | .call c,.sln y=>(match c.callee,c.args.toList,c.argTypes.toList with
   | .builtin .len,[x],[T]=>lS N x y && isStr P T
   |_,_,_=>J)
 | .call c,.min y e=>(match c.callee,c.args.toList with
   | .builtin .min,[x,f]=>lS N x y && lS N f e
   |_,_=>J)
 | .call c,.max y e=>(match c.callee,c.args.toList with
   | .builtin .max,[x,f]=>lS N x y && lS N f e
   |_,_=>J)
 | .extract x i,.ext y j=>lS N x y && i ==j
 | .slice T x O (Z h) O,.slc y j=>lS N x y && lS N h j && QT P T && (Md P T).isSome
 | .slice T x q r O,.MQ y l h=>lS N x y && Rh N q l && Rh N r h && isStr P T
 | .slice T x q r O,.AO k y l h=>lS N x y && Rh N q l && Rh N r h && Md P T ==Z k
 | .nilCheck x,.nck y=>lS N x y
 | .convert T s x,.PI y=>lS N x y && isStr P s && ahe P T
 | .field T x i,.fld o y=>lS N x y && agJ P T i o
 | .makeFunc (.func F) fs cs,.mkf G ys=>F ==G && fs.isEmpty && GP N cs.toList ys
 |_,_=>J
theorem ek{a:Type}:∀(l:M a) (i:Nat),nth l i=l[i]?
 |[],i=>by simp[nth]
 |x::l,0=>by simp[nth]
 |x::l,i+1=>by simp[nth,ek l i]
theorem fi.length{b:Gh}{w:World}:∀{a:M C} {vs:M Value},fi b w a vs->vs.length=a.length
 |[],_,h=>by simp only[fi]at h;simp[h]
 |c::a,_,h=>by simp only[fi]at h;obtain⟨v,e,rfl,_,d⟩:=h;simp[fi.length d]
theorem fi.at_{d:Gh}{w:World}:∀{b:M C} {vs:M Value},fi d w b vs->∀{i:Nat} {c:C},b[i]?=Z c->∃v,vs[i]?=Z v/\CR d w c v
 |[],_,_,i,c,a=>by simp at a
 |x::b,_,h,i,c,a=>by simp only[fi]at h;obtain⟨v,g,rfl,f,e⟩:=h;cases i with|zero=>{simp at a;subst a;exact⟨v,rfl,f⟩}|succ i=>simp at a;simpa using fi.at_ e a
theorem fi.drop{b:Gh}{w:World}:∀{a:M C} {vs:M Value} (n:Nat),fi b w a vs->fi b w (a.drop n) (vs.drop n)
 |a,_,0,h=>by simpa using h
 |[],_,n+1,h=>by simp only[fi]at h;subst h;simp[fi]
 |c::a,_,n+1,h=>by simp only[fi]at h;obtain⟨v,e,rfl,_,d⟩:=h;simpa using fi.drop n d
theorem fi.take{b:Gh}{w:World}:∀{a:M C} {vs:M Value} (n:Nat),fi b w a vs->fi b w (a.take n) (vs.take n)
 |a,_,0,h=>by simp[fi]
 |[],_,n+1,h=>by simp only[fi]at h;subst h;simp[fi]
 |c::a,_,n+1,h=>by simp only[fi]at h;obtain⟨v,f,rfl,e,d⟩:=h;simp only[cT,fi];exact⟨v,_,rfl,e,fi.take n d⟩
theorem fi.append{a:Gh}{w:World}:∀{d f:M C} {vs e:M Value},fi a w d vs->fi a w f e->fi a w (d++f) (vs++e)
 |[],_,_,_,h,b=>by simp only[fi]at h;subst h;simpa using b
 |c::d,_,_,_,h,b=>by simp only[fi]at h;obtain⟨v,j,rfl,i,g⟩:=h;simp only[ax,fi];exact⟨v,_,rfl,i,fi.append g b⟩
def fi.spl{a:Gh}{w:World}{e d:M C}{vs b:M Value}(o:Nat)(h:fi a w e vs)(c:fi a w d b):fi a w (nS e o d) (eE vs o b):=by unfold nS eE;rw[<- c.length];exact ((h.take o).append c).append (h.drop _)
theorem fi.ofC{b:Gh}{w:World}:∀{a:M D} {vs:M Value} {F:Fp},fR w a vs F->dY b.h F->fi b w (a.map .d) vs
 |[],_,_,h,_=>by simp only[fR]at h;simp[fi,h.1]
 |d::a,_,_,h,c=>by simp only[fR]at h;obtain⟨v,g,i,j,rfl,rfl,f,e⟩:=h;simp only[bc,fi];refine⟨v,g,rfl,?_,fi.ofC e (c.sub (by simp_all))⟩;simp only[CR];exact⟨i,f,c.sub (by simp_all)⟩
theorem CR.cells{g:Gh}{w:World}{c:C}{v:Value}(h:CR g w c v)(a:c.cells.all C.cell=I):fi g w c.cells v.cells.toList/\(c.isAgg=J->v.cells=#[v])/\(c.isAgg=I->∃vs:M Value,v=.agg vs.toArray):=by cases c with|agg o=>{simp only[CR]at h;obtain⟨vs,rfl,i⟩:=h;exact⟨by simpa [C.cells,Value.cells] using i,by simp[C.isAgg],λ_=>⟨vs,rfl⟩⟩}|d x=>{have f:=h;simp only[CR]at h;obtain⟨F,j,_⟩:=h;have l:=j.vR;(have e:v.cells=#[v]:=by cases v<;>simp_all[Value.cells,one]);refine⟨?_,λ_=>e,by simp[C.isAgg]⟩;rw[e];simp only[C.cells,fi];exact⟨v,[],rfl,f,rfl⟩}|nil k m=>{have f:=h;simp only[CR]at h;obtain⟨rfl,_⟩:=h;refine⟨?_,λ_=>rfl,by simp[C.isAgg]⟩;simp only[C.cells,Value.cells,fi];exact⟨_,[],rfl,f,rfl⟩}|ref r=>{have f:=h;simp only[CR]at h;obtain⟨_,A,n,c,rfl⟩:=h;refine⟨?_,λ_=>rfl,by simp[C.isAgg]⟩;simp only[C.cells,Value.cells,fi];exact⟨_,[],rfl,f,rfl⟩}|ptr _ _=>{simp[C.cells,C.cell]at a}|pG _ _ _ _=>{simp[C.cells,C.cell]at a}|vi _=>{simp[C.cells,C.cell]at a}|tw _=>{simp[C.cells,C.cell]at a}|fn _ _=>{simp[C.cells,C.cell]at a}|wD=>{simp[C.cells,C.cell]at a}|any=>simp[C.cells,C.cell]at a
theorem abq(off:Nat):∀(vs:M Value) (j:Nat) (A:Array Value),off+j+vs.length<=A.size->(vs.zipIdx j).foldl (λa p=>a.setIfInBounds (off+p.2) p.1) A=(eE A.toList (off+j) vs).toArray
 |[],j,A,_=>by simp[eE]
 |v::vs,j,A,h=>by simp only[aN]at h;simp only[List.zipIdx_cons,xu];rw[abq off vs (j+1) _ (by simp;omega),<- gC,<- C8 _ _ _ _ (by simp;omega)];simp
def Ud(off:Nat)(vs:M Value)(A:Array Value)(h:off+vs.length<=A.size):vs.toArray.zipIdx.foldl (λa (c,j)=>a.setIfInBounds (off+j) c) A=(eE A.toList off vs).toArray:=by have b:=abq off vs 0 A (by simpa using h);simp_all
theorem NR{r:Gh}{S:Nat->Nat}{B:M Nat}{A:World}{s:St}{f:Fm}{w:World}{N:Nat}(y:Inv r S B A s f w){pl:M (Nat×Nat)}{place:Nat->u (Nat×Nat)}(v:∀i,place i=pl[i]?) :
  ∀(k:M (Nat×Operand)) (l:M (Nat×Nat×KX)) (g:M C) (a:M Value) (d:M C),xg N pl k l=I->fi r w g a->CV g (l.map λp=>(p.1,p.2.1,(gG s p.2.2).cells))=Z d->
   ∃q:M Value,Instr.fill place a.toArray (k.map λp=>(p.1,(fr f N).eval p.2))=Z q.toArray/\fi r w d q
 |[],[],g,a,d,_,m,b=>by simp only[cA,CV,ao]at b;subst b;exact⟨a,rfl,m⟩
 |[],_::_,_,_,_,h,_,_=>by simp[xg]at h
 |_::_,[],_,_,_,h,_,_=>by simp[xg]at h
 |(i,x)::k,(o,n,kx)::l,g,a,d,h,m,b=>by simp only[xg,aw,beq_iff_eq]at h;obtain⟨⟨R,Q⟩,P⟩:=h;simp only[bc,CV]at b;split at b;{rename_i H;obtain⟨c1,W,U⟩:=H;have F:=cZ y Q;obtain⟨t,_,_⟩:=F.cells U;have G:=t.length;obtain⟨q,L,K⟩:=NR y v k l _ _ d P (m.spl o t) b;refine⟨q,?_,K⟩;simp only[bc,Instr.fill,v,R];(have V:((fr f N).eval x).cells.size=n:=by rw[<- gp,G];exact c1);have D:=m.length;rw[if_neg (by simp only[tH];simp;omega)];have e:((fr f N).eval x).cells.zipIdx.foldl (λT (c,j)=>T.setIfInBounds (o+j) c) a.toArray=(eE a o ((fr f N).eval x).cells.toList).toArray:=by{have:=Ud o ((fr f N).eval x).cells.toList a.toArray (by simp;omega);simpa using this};rw[e];exact L};cases b
theorem YL{P:Program}{T:TypeId}{a:M Value}{pl:M (Nat×Nat)}(c:u0 P T=Z a)(d:xl P T=Z pl)(parts:M (Nat×Value)):P.built T parts=Instr.fill (λi=>pl[i]?) a.toArray parts:=by unfold xl at d;unfold u0 at c;cases e:P.info? T with|none=>{rw[e]at c;simp at c}|some f=>rw[e]at c;cases b:f.zero with|none=>{simp[b]at c}|some z0=>simp[b]at c;subst c;split at d;{rename_i fs g;simp only[Program.built,e,g,b,d];simp};cases d
section
variable {P:Program} {γ:Gh} {h0:Nat->Nat} {io:M Nat} {w0:World} {s:St} {f:Fm} {w:World} {N:Nat} {dst:u Tmp} {ty:TypeId} {pos:String} {aft:Array Edge} {gd:u (Nat×Bool)}
theorem aed(o:Inv γ h0 io w0 s f w){T:TypeId}{e:Array (Nat×Operand)}{h:M C}{j:M (Nat×Nat×KX)}{c:C}(b:Ay P N (.build T e) (.build h j)=I)(g:jl s (.build h j)=Z c) :
  ∃v,CR γ w c v/\∀d,(execOp (fr f N).eval ⟨dst,.build T e,ty,pos,aft,gd⟩).run P d=.ok (.value v) d:=by simp only[Ay]at b;split at b;{rename_i a pl m n;simp only[aw]at b;simp only[jl,ay]at g;obtain⟨l,g,rfl⟩:=g;obtain⟨k,r,q⟩:=NR o (place:=λi=>pl[i]?) (λ_=>rfl) e.toList j h a l b.2 (AB _ _ b.1) g;refine⟨.agg k.toArray,by simp only[CR];exact⟨k,rfl,q⟩,λd=>?_⟩;have p:=run_build (P:=P) d T (e.map λ(i,x)=>(i,(fr f N).eval x)) k.toArray (by rw[YL m n];simpa using r);simp[execOp,p]};cases b
theorem anc(k:Inv γ h0 io w0 s f w){T:TypeId}{o:Array (Nat×Operand)}{n:M C}{c:C}(g:Ay P N (.build T o) (.zro n)=I)(h:jl s (.zro n)=Z c) :
  ∃v,CR γ w c v/\∀j,(execOp (fr f N).eval ⟨dst,.build T o,ty,pos,aft,gd⟩).run P j=.ok (.value v) j:=by simp only[Ay,aw,Array.isEmpty_iff]at g;obtain⟨⟨rfl,i⟩,g⟩:=g;split at g;{rename_i a e;simp only[jl]at h;split at h;{simp only[ao]at h;subst h;refine⟨.agg a.toArray,by simp only[CR];exact⟨a,rfl,AB _ _ g⟩,λj=>?_⟩;have t:P.built T []=Z a.toArray:=by{unfold u0 at e;unfold aj_ at i;cases k:P.info? T with|none=>{rw[k]at e;simp at e}|some p=>rw[k]at e;cases d:p.zero with|none=>{simp[d]at e}|some z0=>simp[d]at e;subst e;split at i;{rename_i m b q;rw[cB]at i;obtain⟨x,l⟩:=i;simp[Program.built,k,q,d,l,Instr.fill]};cases i};have r:=run_build (P:=P) j T #[] a.toArray t;simp[execOp,r]};cases h};cases g
theorem ahM(hi:Inv γ h0 io w0 s f w){T:TypeId}{x:Operand}{y:KX}{n:Nat}{c:C}(du:Ay P N (.load T x) (.ld n y)=I)(q:jl s (.ld n y)=Z c) :
  ∃v,CR γ w c v/\∀l,sG γ s w l->(execOp (fr f N).eval ⟨dst,.load T x,ty,pos,aft,gd⟩).run P l=.ok (.value v) l:=by simp only[Ay,aw]at du;obtain⟨hx,oT⟩:=du;have H:=cZ hi hx;have fin:∀(b o:Nat) (vs:M Value),(fr f N).eval x=.pointer (Z ⟨b,o,O⟩)->(∀l,sG γ s w l->jZ l b o vs)->(n=0->vs.length=1)->(n≠0->vs.length=n)-> ∀l,sG γ s w l->(execOp (fr f N).eval ⟨dst,.load T x,ty,pos,aft,gd⟩).run P l=.ok (.value (if n=0 then vs.headD undef else .agg vs.toArray)) l:=by{intro b o vs S K h1 W l t;by_cases B:n=0;{subst B;simp only[if_true,beq_iff_eq]at oT ⊢;obtain⟨v,rfl⟩:=dm.1 (h1 rfl);exact MA (λw=>tm oT w) S (by have:=K l t 0 v rfl;simpa using this)};simp only[if_neg B,aw,beq_iff_eq]at oT ⊢;exact MB (λw=>tm oT.1 w) (λw=>run_sizeOf oT.2 w) S (W B) (K l t)};simp only[jl]at q;split at q;{rename_i b o V;rw[V]at H;simp only[CR]at H;split at q;{rename_i cs K;obtain⟨T',vs,h1,W,h3⟩:=hi.bx b cs K;have D:=W.length;have Q:∀(m:Nat) l,sG γ s w l->jZ l (γ.β b) o ((vs.drop o).take m):=by{intro m l t;have:=(h1.ez (t.bx b cs K)).W0;have h4:=this.sub o m;simpa using h4};by_cases B:n=0;{subst B;simp only[if_true,ek]at q;obtain⟨v,R,hc⟩:=W.at_ q;have gf:=(br.1 R).1;have X:(vs.drop o).take 1=[v]:=by{rw[List.take_one,List.head?_drop,R];rfl};refine⟨v,hc,λl t=>?_⟩;have:=fin _ _ _ H (Q 1) (λ_=>by rw[X];rfl) (λh=>absurd rfl h) l t;rw[X]at this;simpa using this};rw[if_neg B]at q;split at q;{rename_i ho;simp only[ao]at q;subst q;refine⟨.agg ((vs.drop o).take n).toArray,by simp only[CR];exact⟨_,rfl,(W.drop o).take n⟩,λl t=>?_⟩;have:=fin _ _ _ H (Q n) (λh=>absurd h B) (λ_=>by simp;omega) l t;simpa [B] using this};cases q};cases q};{rename_i cs V;rw[V]at H;simp only[CR]at H;obtain⟨b,o,vs,F,S,K4,jv,K,hh⟩:=H;have D:=fR.length cs K4;have Q:∀(m:Nat) l,sG γ s w l->jZ l b o (vs.take m):=by{intro m l t;have:jZ l b o vs:=by{intro j a hu;have hj:=(br.1 hu).1;rw[t.cell b (o+j) (hh j (by omega))];exact K j a hu};have h4:=this.sub 0 m;simpa using h4};by_cases B:n=0;{subst B;simp only[if_true,ek,ay]at q;obtain⟨d,hd,rfl⟩:=q;obtain⟨v,G,R,tG,hG⟩:=K4.at_ hd;have X:vs.take 1=[v]:=by{rw[List.take_one,List.head?_eq_getElem?,R];rfl};refine⟨v,by simp only[CR];exact⟨G,tG,jv.sub hG⟩,λl t=>?_⟩;have:=fin _ _ _ S (Q 1) (λ_=>by rw[X];rfl) (λh=>absurd rfl h) l t;rw[X]at this;simpa using this};rw[if_neg B]at q;split at q;{rename_i ho;simp only[ao]at q;subst q;obtain⟨G,h4,h5⟩:=fR.take cs n K4;refine⟨.agg (vs.take n).toArray,by simp only[CR];exact⟨_,rfl,fi.ofC h4 (jv.sub h5)⟩,λl t=>?_⟩;have:=fin _ _ _ S (Q n) (λh=>absurd h B) (λ_=>by simp;omega) l t;simpa [B] using this};cases q};{rename_i r k i o V;rw[V]at H;simp only[CR]at H;obtain⟨g,p,m,cc,nj,S⟩:=H;split at q;{rename_i row K;split at q;{rename_i e BI;split at q;{rename_i hc;obtain⟨hk,ho,PM⟩:=hc;subst hk;obtain⟨F,hR,_,wY⟩:=hi.rw r row K;obtain⟨A,n',c',q1,q2,q3,q4,q5,q6,q7,q8⟩:=hR;rw[nj]at q1;simp only[Value.slice.injEq]at q1;obtain⟨rfl,rfl,rfl⟩:=q1;rcases q8 with ⟨q8,_⟩|⟨g',p',Y,G,a1,a2,a3,a4,a5,a6,a7,a8,a9,xA⟩;{cases q8};simp only[ao,Addr.mk.injEq,and_true]at a1;obtain⟨rfl,rfl⟩:=a1;rw[ek]at BI;obtain⟨G',K4,hG'⟩:=a4.at_ q6 BI;have hlx:=g_.length row.es a4 q6;have agX:=(br.1 BI).1;have HO:=q6 e (fT BI);have hgF:g∈F:=by{cases hd:row.deep with|true=>{rw[(a9 hd).1];simp}|false=>rw[(xA hd).1];simp};have Q:∀(m:Nat) l,sG γ s w l->jZ l g (p+i * row.k+o) ((((Y.drop (i * row.k)).take row.k).drop o).take m):=by{intro m l t;have h1:jZ l g p Y:=a5.ez (t.rw r row K g (wY g hgF));have W:=(h1.sub (i * row.k) row.k).sub o m;exact W};have afM:∀(m:Nat),db ((e.drop o).take m)=I\/row.deep=J->∃G2,fR w ((e.drop o).take m) ((((Y.drop (i * row.k)).take row.k).drop o).take m) G2/\dY γ.h G2:=by{intro m U;obtain⟨G1,r1,s1⟩:=fR.drop e o K4;obtain⟨G2,L,s2⟩:=fR.take _ m r1;refine⟨G2,L,?_⟩;rcases U with U|U;{have:G2=[]:=L.plain (by simpa [db] using U);subst this;exact λ_ h=>by simp at h};exact (xA U).2.sub (λbe V=>hG' be (s1 be (s2 be V)))};have alm:∀m,m=max n 1->db ((e.drop o).take m)=I\/row.deep=J:=by{intro m U;subst U;simpa using PM};have D:((Y.drop (i * row.k)).take row.k).length=row.k:=by{rw[fR.length e K4,HO]};by_cases B:n=0;{subst B;simp only[if_true,ek,ay]at q;obtain⟨d,hd,rfl⟩:=q;obtain⟨G2,L,s2⟩:=afM 1 (alm 1 (by simp));(have X:(e.drop o).take 1=[d]:=by rw[List.take_one,List.head?_drop,hd];rfl);rw[X]at L;obtain⟨v,G3,R,tG,hG4⟩:=L.at_ (i:=0) (d:=d) rfl;have e2:(((Y.drop (i * row.k)).take row.k).drop o).take 1=[v]:=by{have K0:=fR.length _ L;simp only[aN,aK]at K0;obtain⟨a,hu⟩:=dm.1 K0;rw[hu]at R ⊢;simp at R;rw[R]};refine⟨v,by simp only[CR];exact⟨G3,tG,s2.sub hG4⟩,λl t=>?_⟩;have:=fin _ _ _ S (Q 1) (λ_=>by rw[e2];rfl) (λh=>absurd rfl h) l t;rw[e2]at this;simpa using this};rw[if_neg B]at q;simp only[ao]at q;subst q;(have agZ:max n 1=n:=by omega);obtain⟨G2,L,s2⟩:=afM n (alm n agZ.symm);refine⟨.agg ((((Y.drop (i * row.k)).take row.k).drop o).take n).toArray,by simp only[CR];exact⟨_,rfl,fi.ofC L s2⟩,λl t=>?_⟩;have:=fin _ _ _ S (Q n) (λh=>absurd h B) (λ_=>by simp only[bo,jK,D];omega) l t;simpa [B] using this};cases q};cases q};cases q};cases q
theorem aqp(X:Inv γ h0 io w0 s f w){T:TypeId}{x:Operand}{y:KX}{i o:Nat}{c:C}(K:Ay P N (.fieldAddr T x i) (.fa o y)=I)(e:jl s (.fa o y)=Z c) :
  ∃v,CR γ w c v/\∀l,(execOp (fr f N).eval ⟨dst,.fieldAddr T x i,ty,pos,aft,gd⟩).run P l=.ok (.value v) l:=by simp only[Ay,aw]at K;obtain⟨R,h⟩:=K;have d:=cZ X R;unfold ZQ at h;split at h;{rename_i fs A;split at h;{rename_i fd H;simp only[aw,beq_iff_eq]at h;obtain⟨S,B⟩:=h;split at B;{rename_i n U;simp only[jO]at B;obtain⟨m,rfl⟩:∃m,n=m+1:=⟨n - 1,by omega⟩;have fin:∀b p,(fr f N).eval x=.pointer (Z ⟨b,p,O⟩)->∀l,(execOp (fr f N).eval ⟨dst,.fieldAddr T x i,ty,pos,aft,gd⟩).run P l=.ok (.value (.pointer (Z ⟨b,p+o,O⟩))) l:= λb p D l=>afe A H (λw=>run_sizeOf U w) S D;simp only[jl]at e;split at e;{rename_i b p t;rw[t]at d;simp only[CR]at d;simp only[ao]at e;subst e;exact⟨_,by simp only[CR],fin _ _ d⟩};{rename_i cs t;rw[t]at d;simp only[CR]at d;simp only[ao]at e;subst e;obtain⟨b,p,vs,F,D,K4,L,V,Y⟩:=d;obtain⟨G,h4,h5⟩:=fR.drop cs o K4;refine⟨_,?_,fin _ _ D⟩;simp only[CR];refine⟨b,p+o,vs.drop o,G,rfl,h4,L.sub h5,?_,?_⟩;{intro j a A;rw[sw]at A;rw[gC];exact V _ a A};intro j W;rw[jK]at W;rw[gC];exact Y _ (by omega)};{rename_i r k Q p t;rw[t]at d;simp only[CR]at d;simp only[ao]at e;subst e;obtain⟨g,q,n,cc,h1,h2⟩:=d;refine⟨_,?_,fin _ _ h2⟩;simp only[CR];exact⟨g,q,n,cc,h1,by rw[gC (q+Q * k)]⟩};cases e};cases B};cases h};cases h
theorem aqq(Q:Inv γ h0 io w0 s f w){T:TypeId}{x ix:Operand}{y j:KX}{k:Nat}{c:C}(du:Ay P N (.indexAddr T x ix) (.ia k y j)=I)(d:jl s (.ia k y j)=Z c) :
  ∃v,CR γ w c v/\∀t,(execOp (fr f N).eval ⟨dst,.indexAddr T x ix,ty,pos,aft,gd⟩).run P t=.ok (.value v) t:=by simp only[Ay,aw]at du;obtain⟨⟨hx,hj⟩,h⟩:=du;have g:=cZ Q hx;have D:=cZ Q hj;unfold sliceB at h;split at h;{rename_i a X;simp only[beq_iff_eq]at h;simp only[jl]at d;split at d;{rename_i p fl es n q L;rw[q]at g;rw[L]at D;obtain⟨H,_⟩:=l7 D;split at d;{rename_i R;obtain⟨h1,rfl⟩:=R;simp only[ek,ay]at d;obtain⟨e,U,rfl⟩:=d;simp only[CR,Rp]at g;obtain⟨F,⟨A,m,cc,B,q2,q3,q4,q5,q6,K,l⟩,W⟩:=g;have gf:=(br.1 U).1;rcases l with ⟨l,_⟩|⟨_,b,o,xs,G,rfl,rfl,a2,a3⟩;{omega};refine⟨.pointer (Z ⟨b,o+n.toNat * p,O⟩),?_,λt=>rF X (λw=>run_sizeOf h w) B H (by omega) (by omega)⟩;obtain⟨G',K4,S⟩:=a2.at_ K U;simp only[CR];refine⟨b,_,_,G',rfl,K4,W.sub (λbe q=>by simp[S be q]),a3.sub _ _,?_⟩;intro i CY;have HO:=K e (fT U);have hs:=W (b,o+m * p) (by simp);simp only at hs;have:n.toNat * p+p<=m * p:=by{rw[<- ov];exact eK _ (by omega)};omega};cases d};{rename_i r n q L;rw[q]at g;rw[L]at D;obtain⟨H,_⟩:=l7 D;split at d;{rename_i row hl;split at d;{rename_i R;obtain⟨h1,h2,rfl⟩:=R;simp only[ao]at d;subst d;simp only[CR]at g;obtain⟨g,_⟩:=g;obtain⟨F,hR,_,wY⟩:=Q.rw r row hl;obtain⟨A,n',c',B,q2,q3,q4,q5,q6,K,l⟩:=hR;rcases l with ⟨rfl,l,_⟩|⟨Y,V,xs,G,rfl,a2,a3,a4,a5,a6,a7,a8,a9,xA⟩;{omega};refine⟨.pointer (Z ⟨Y,V+n.toNat * row.k,O⟩),?_,λt=>rF X (λw=>run_sizeOf h w) (g.trans B) H (by omega) (by omega)⟩;simp only[CR];exact⟨Y,V,n',c',B,by simp⟩};cases d};cases d};cases d};cases h
theorem acN{d:Operand->Value}{x y:Operand}{b o n:Nat}{i:Nat}{a:Int}{T c:TypeId}{k:Nat}(l:P.underlying T=Z (.array n c))(m:∀w,(pe c).run P w=.ok k w)(g:d x=.pointer (Z ⟨b,o,O⟩))(e:d y=.int .i64 a)(j:a=(i:Int))(h:i<n) :
  (execOp d ⟨dst,.indexAddr T x y,ty,pos,aft,gd⟩).run P w=.ok (.value (.pointer (Z ⟨b,o+i * k,O⟩))) w:=by subst j;simp[execOp,Instr.indexAt,g,e,asIntOf,Instr.sureAddr,run_underlying l,m,rK,h]
theorem am7(i:Inv γ h0 io w0 s f w){T:TypeId}{x ix:Operand}{y j:KX}{n k:Nat}{c:C}(l:Ay P N (.indexAddr T x ix) (.ixa n k y j)=I)(d:jl s (.ixa n k y j)=Z c) :
  ∃v,CR γ w c v/\∀g,(execOp (fr f N).eval ⟨dst,.indexAddr T x ix,ty,pos,aft,gd⟩).run P g=.ok (.value v) g:=by simp only[Ay,aw]at l;obtain⟨⟨A,F⟩,e⟩:=l;have h:=cZ i A;have p:=cZ i F;unfold aj9 at e;split at e;{rename_i m a B;simp only[aw,beq_iff_eq]at e;obtain⟨rfl,t⟩:=e;simp only[jl]at d;split at d;{rename_i b o q H D;rw[H]at h;rw[D]at p;obtain⟨r,_⟩:=l7 p;simp only[CR]at h;split at d;{rename_i G;simp only[ao]at d;subst d;exact⟨_,by simp only[CR],λg=>acN B (λw=>run_sizeOf t w) h r (by omega) G.2⟩};cases d};cases d};cases e
theorem am9(g:Inv γ h0 io w0 s f w){T:TypeId}{x ix:Operand}{y j:KX}{c:C}(h:Ay P N (.index T x ix) (.six y j)=I)(a:jl s (.six y j)=Z c) :
  ∃v,CR γ w c v/\∀b,(execOp (fr f N).eval ⟨dst,.index T x ix,ty,pos,aft,gd⟩).run P b=.ok (.value v) b:=by simp only[Ay,aw]at h;obtain⟨⟨m,q⟩,d⟩:=h;have e:=cZ g m;have i:=cZ g q;unfold isStr at d;split at d;{rename_i o;simp only[jl]at a;split at a;{rename_i t n A p;rw[A]at e;rw[p]at i;obtain⟨k,_⟩:=l7 i;obtain⟨l,_⟩:=Ez e;split at a;{rename_i r;simp only[ao]at a;subst a;refine⟨_,jC ?_,λb=>acP o l k (by omega) r.2⟩;have:=mP t n.toNat;simp[IntKind.wrap,IntKind.bits,IntKind.signed];omega};cases a};cases a};cases d
theorem yv{n:Int}(h:IntKind.i64.wrap n=n):-9223372036854775808<=n/\n<=9223372036854775807:=by simp[IntKind.wrap,IntKind.bits,IntKind.signed]at h;split at h<;>omega
theorem iI{n:Int}(h:-9223372036854775808<=n/\n<=9223372036854775807):IntKind.i64.wrap n=n:=IntWalk.i64_in _ h
theorem wrap_wrap(k:IntKind)(n:Int):k.wrap (k.wrap n)=k.wrap n:=by cases k<;>simp only[IntKind.wrap,IntKind.bits,IntKind.signed]<;>(repeat' split)<;>simp_all<;>omega
theorem am4(Q:Inv γ h0 io w0 s f w){op:BinOp}{T S:TypeId}{x L:Operand}{y K:KX}{c:C}(R:Ay P N (.binOp op T x L S) (.bin op y K)=I)(m:jl s (.bin op y K)=Z c) :
  ∃v,CR γ w c v/\∀g,(execOp (fr f N).eval ⟨dst,.binOp op T x L S,ty,pos,aft,gd⟩).run P g=.ok (.value v) g:=by simp only[Ay,aw]at R;obtain⟨⟨_,V⟩,Y⟩:=R;have t:=cZ Q V;have B:=cZ Q Y;simp only[jl]at m;unfold UR at m;split at m;{rename_i k a U b H F;rw[H]at t;rw[F]at B;obtain⟨i,l⟩:=l7 t;obtain⟨h,q⟩:=l7 B;split at m;{rename_i X;subst X;simp only[ay]at m;obtain⟨d,hd,rfl⟩:=m;unfold YE at hd;split at hd;(all_goals (try (simp only[ao]at hd;subst hd)));{exact⟨_,jC (wrap_wrap _ _),λg=>by simp[execOp,i,h,binOp,Op.intArith,eqGuard]⟩};{exact⟨_,jC (wrap_wrap _ _),λg=>by simp[execOp,i,h,binOp,Op.intArith,eqGuard]⟩};{exact⟨_,jC (wrap_wrap _ _),λg=>by simp[execOp,i,h,binOp,Op.intArith,eqGuard]⟩};{exact⟨_,jG,λg=>A6 i h rfl⟩};{exact⟨_,jG,λg=>aoY i h rfl⟩};{exact⟨_,jG,λg=>aoX i h rfl⟩};{exact⟨_,jG,λg=>acO i h rfl⟩};{exact⟨_,jG,λg=>aoW i h rfl⟩};{exact⟨_,jG,λg=>aoZ i h (by simp)⟩};{split at hd;{rename_i j;obtain⟨rfl,o,A⟩:=j;simp only[ao]at hd;subst hd;have D:=yv l;have r:0<=a / b/\a / b<=a:=⟨Int.ediv_nonneg o (by omega),Int.ediv_le_self _ o⟩;(have p:¬b=0:=by omega);have e:a.tdiv b=a / b:=Int.tdiv_eq_ediv_of_nonneg o;have n:IntKind.i64.wrap (a / b)=a / b:=iI (by omega);exact⟨_,jC n,λg=>by simp[execOp,i,h,binOp,Op.intDiv,eqGuard,p,e,n]⟩};split at hd;{rename_i j;obtain⟨rfl,o,A⟩:=j;simp only[ao]at hd;subst hd;have D:=yv l;have r:0<=-a / b/\-a / b<=-a:=⟨Int.ediv_nonneg (by omega) (by omega),Int.ediv_le_self _ (by omega)⟩;(have p:¬b=0:=by omega);have e:a.tdiv b=-(-a / b):=by{have:=Int.neg_tdiv (-a) b;rw[uJ]at this;rw[this,Int.tdiv_eq_ediv_of_nonneg (by omega)]};have n:IntKind.i64.wrap (-(-a / b))=-(-a / b):=iI (by omega);exact⟨_,jC n,λg=>by simp[execOp,i,h,binOp,Op.intDiv,eqGuard,p,e,n]⟩};cases hd};{split at hd;{rename_i j;obtain⟨rfl,o,A⟩:=j;simp only[ao]at hd;subst hd;have D:=yv l;have r:0<=a % b/\a % b<b:=⟨Int.emod_nonneg _ (by omega),Int.emod_lt_of_pos _ (by omega)⟩;have G:=yv q;(have p:¬b=0:=by omega);have e:a.tmod b=a % b:=Int.tmod_eq_emod_of_nonneg o;have n:IntKind.i64.wrap (a % b)=a % b:=iI (by omega);exact⟨_,jC n,λg=>by simp[execOp,i,h,binOp,Op.intDiv,eqGuard,p,e]⟩};split at hd;{rename_i j;obtain⟨rfl,o,A⟩:=j;simp only[ao]at hd;subst hd;have r:0<=-a % b/\-a % b<b:=⟨Int.emod_nonneg _ (by omega),Int.emod_lt_of_pos _ (by omega)⟩;have G:=yv q;(have p:¬b=0:=by omega);have e:a.tmod b=-(-a % b):=by{have:=Int.neg_tmod (-a) b;rw[uJ]at this;rw[this,Int.tmod_eq_emod_of_nonneg (by omega)]};have n:IntKind.i64.wrap (-(-a % b))=-(-a % b):=iI (by omega);exact⟨_,jC n,λg=>by simp[execOp,i,h,binOp,Op.intDiv,eqGuard,p,e]⟩};cases hd};{exact⟨_,jC (wrap_wrap _ _),λg=>by simp[execOp,i,h,binOp,Op.intBits,eqGuard]⟩};{exact⟨_,jC (wrap_wrap _ _),λg=>by simp[execOp,i,h,binOp,Op.intBits,eqGuard]⟩};cases hd};simp only[ay]at m;obtain⟨d,hd,rfl⟩:=m;unfold ai2 at hd;split at hd;{split at hd;{rename_i j;obtain⟨rfl,o,A⟩:=j;cases hd;have D:=yv l;have W:(1:Int)<=2 ^ b.toNat:=Int.pow_pos (by decide);have r:-9223372036854775808<=a / 2 ^ b.toNat/\a / 2 ^ b.toNat<=9223372036854775807:=by{constructor;{rw[Int.le_ediv_iff_mul_le (by omega)];have:=Int.mul_le_mul_of_nonpos_left (by decide:(-9223372036854775808:Int)<=0) W;omega};have:=Int.ediv_le_ediv (c:=2 ^ b.toNat) (by omega) D.2;have h3:=Int.ediv_le_self (a:=9223372036854775807) (2 ^ b.toNat) (by omega);omega};have n:IntKind.i64.wrap (a / 2 ^ b.toNat)=a / 2 ^ b.toNat:=iI r;exact⟨_,jC n,λg=>by have:=shift_shr .i64 U a b o (by simp[IntKind.bits];omega);simp[execOp,i,h,binOp,eqGuard]⟩};cases hd};cases hd};{rename_i a b H F;rw[H]at t;rw[F]at B;obtain⟨i,l⟩:=Ez t;obtain⟨h,q⟩:=Ez B;simp only[ay]at m;obtain⟨d,hd,rfl⟩:=m;unfold YF at hd;split at hd;{split at hd;{rename_i j;simp only[ao]at hd;subst hd;(have p:¬(((a.size+b.size:Nat):Int) > IntKind.i64.max):=by simp[IntKind.max,IntKind.signed,IntKind.bits];simp[maxLen]at j;omega);refine⟨_,CB (by simpa using j),λg=>?_⟩;simp only[execOp,i,h,binOp,Op.stringOp,eqGuard,if_neg p];simp};cases hd};{simp only[ao]at hd;subst hd;exact⟨_,jG,λg=>ajL i h rfl⟩};{simp only[ao]at hd;subst hd;exact⟨_,jG,λg=>ajN i h (by simp)⟩};{simp only[ao]at hd;subst hd;exact⟨_,jG,λg=>by simp[execOp,i,h,binOp,Op.stringOp,eqGuard,nL]⟩};{simp only[ao]at hd;subst hd;exact⟨_,jG,λg=>by simp[execOp,i,h,binOp,Op.stringOp,eqGuard,nL,oq]⟩};{simp only[ao]at hd;subst hd;exact⟨_,jG,λg=>by simp[execOp,i,h,binOp,Op.stringOp,eqGuard,nL,oq]⟩};{simp only[ao]at hd;subst hd;exact⟨_,jG,λg=>by simp[execOp,i,h,binOp,Op.stringOp,eqGuard,nL]⟩};cases hd};cases m
theorem am3(n:Inv γ h0 io w0 s f w){op:BinOp}{T q:TypeId}{x j:Operand}{y i:KX}{c:C}(p:Ay P N (.binOp op T x j q) (.XU op y i)=I)(e:jl s (.XU op y i)=Z c) :
  ∃v,CR γ w c v/\∀g,(execOp (fr f N).eval ⟨dst,.binOp op T x j q,ty,pos,aft,gd⟩).run P g=.ok (.value v) g:=by simp only[Ay,aw]at p;obtain⟨⟨⟨_,t⟩,B⟩,h⟩:=p;have m:=cZ n t;have r:=cZ n B;unfold isBool at h;split at h;{rename_i o;simp only[jl]at e;split at e;{rename_i a b D A;rw[D]at m;rw[A]at r;have l:=tN m;have k:=tN r;simp only[ay]at e;obtain⟨d,hd,rfl⟩:=e;unfold YD at hd;split at hd;{simp only[ao]at hd;subst hd;exact⟨_,jG,λg=>ajJ o l k rfl⟩};{simp only[ao]at hd;subst hd;exact⟨_,jG,λg=>ajK o l k (by simp)⟩};cases hd};cases e};cases h
theorem IM{w:World}:∀(es:M (M D)) {d:M Value} {G:Fp} {b:M Int},g_ w es d G->bytesOf es=Z b->d=b.map (Value.int .u8)/\b.length=es.length
 |[],d,G,b,h,a=>by simp only[g_]at h;simp only[bytesOf,ao]at a;subst a;simp[h.1]
 |e::es,d,G,b,h,a=>by simp only[g_]at h;obtain⟨v1,v2,x,t,rfl,rfl,g,l⟩:=h;unfold bytesOf at a;split at a;{rename_i m;cases m};{rename_i n p c;simp only[cr]at c;obtain⟨rfl,rfl⟩:=c;simp only[ay]at a;obtain⟨o,k,rfl⟩:=a;obtain⟨j,i⟩:=IM es l k;simp only[fR,Rp]at g;obtain⟨v,q,r,G2,rfl,_,⟨rfl,_⟩,rfl,_⟩:=g;simp[j,i]};cases a
theorem am5(Q:Inv γ h0 io w0 s f w){T q:TypeId}{x:Operand}{y:KX}{c:C}(R:Ay P N (.convert T q x) (.PI y)=I)(e:jl s (.PI y)=Z c) :
  ∃v,CR γ w c v/\∀j,sG γ s w j->(execOp (fr f N).eval ⟨dst,.convert T q x,ty,pos,aft,gd⟩).run P j=.ok (.value v) j:=by simp only[Ay,aw]at R;obtain⟨⟨hx,b⟩,d⟩:=R;have p:=cZ Q hx;simp only[jl]at e;split at e;{rename_i r hb;rw[hb]at p;simp only[CR]at p;split at e;{rename_i row L;split at e;{rename_i hc;simp only[ay]at e;obtain⟨m,l,rfl⟩:=e;obtain⟨F,hR,_,X⟩:=Q.rw r row L;obtain⟨A,n,S,H,q2,q3,q4,q5,q6,q7,Y⟩:=hR;rcases Y with ⟨a1,hc0,_⟩|⟨g,o,V,G,a1,a2,a3,a4,a5,a6,a7,a8,a9,W⟩;{have HP:row.es=[]:=fe.1 (by omega);rw[HP]at l;simp only[bytesOf,ao]at l;subst l;subst a1;refine⟨.string ByteArray.empty,CB (bK _),λj K=>?_⟩;unfold isStr at b;split at b;{rename_i k;unfold ahe at d;split at d;{rename_i a B;split at d;{rename_i D;have h:=run_convert_bytes_nil (P:=P) j T a B D n S q k;have t:=p.1.trans H;simp only[execOp,t,h,Sem.run_bind,Result.andThen_ok];rfl};cases d};cases d};cases b};have hg:g∈F:=by{cases hd:row.deep with|true=>{rw[(a9 hd).1];simp}|false=>rw[(W hd).1];simp};obtain⟨k1,k2⟩:=IM _ a4 l;subst a1;refine⟨_,CB ?_,λj K=>?_⟩;{show (strOfNums m).size<=maxLen;rw[strOfNums_size];omega};have Fj:jZ j g o V:=a5.ez (K.rw r row L g (X g hg));unfold isStr at b;split at b;{rename_i k;unfold ahe at d;split at d;{rename_i a B;split at d;{rename_i D;have h:=run_convert_bytes_arg (P:=P) j T a B D g o n S m (by omega) (λi CY=>by (have U:i<m.length:=by omega);have:=Fj i (.int .u8 m[i]) (by rw[k1];simp[U]);rw[this];simp[U]) q k;have t:=p.1.trans H;simp only[execOp,t,h,Sem.run_bind,Result.andThen_ok];rfl};cases d};cases d};cases b};cases e};cases e};cases e
theorem ana(Y:Inv γ h0 io w0 s f w){T:TypeId}{x ix:Operand}{y j:KX}{c:C}(du:Ay P N (.slice T x O (Z ix) O) (.slc y j)=I)(l:jl s (.slc y j)=Z c) :
  ∃v,CR γ w c v/\∀q,(execOp (fr f N).eval ⟨dst,.slice T x O (Z ix) O,ty,pos,aft,gd⟩).run P q=.ok (.value v) q:=by simp only[Ay,aw]at du;obtain⟨⟨⟨hx,hj⟩,_⟩,m⟩:=du;have B:=cZ Y hx;have Ic:=cZ Y hj;obtain⟨d,m⟩:=cB.1 m;unfold Md at m;split at m;{rename_i i p;simp only[jl]at l;split at l;{rename_i k fl es a hb hn;rw[hb]at B;rw[hn]at Ic;obtain⟨vc,_⟩:=l7 Ic;split at l;{rename_i hc;simp only[ao]at l;subst l;simp only[CR,Rp]at B;obtain⟨F,⟨A,n,K,q1,q2,q3,S,R,Q,r,L⟩,X⟩:=B;(have H:(es.take a.toNat).length=a.toNat:=by rw[bo];omega);refine⟨.slice A a.toNat K,?_,λq=>R9 p (λw=>run_sizeOf m w) q1 vc (by omega) (by omega)⟩;by_cases h0:a.toNat=0;{simp only[CR,Rp];exact⟨[],⟨A,a.toNat,K,rfl,H.symm,by omega,S,λD e l=>R D e (ee l),Q,λe l=>r e (ee l),.inl ⟨h0,rfl⟩⟩,λ_ h=>by simp at h⟩};rcases L with L|⟨hp,b,o,xs,G,p1,V,U,p4⟩;{omega};rw[<- ck a.toNat es]at U;obtain⟨v1,v2,F1,F2,rfl,rfl,W,k2⟩:=g_.j5 _ U;have K0:=g_.length _ W (λe l=>r e (ee l));rw[H]at K0;simp only[CR,Rp];refine⟨(b,o+a.toNat * k)::F1,⟨A,a.toNat,K,rfl,H.symm,by omega,S,λD e l=>R D e (ee l),Q,λe l=>r e (ee l),.inr ⟨by omega,b,o,v1,F1,p1,rfl,W,?_⟩⟩,?_⟩;{intro j g p;exact p4 j g (by rw[eH (br.1 p).1];exact p)};intro be t;rcases aU.1 t with rfl|t;{have:=X (b,o+n * k) (by rw[V];simp);refine aV ?_ this;have:a.toNat * k<=n * k:=eK k (by omega);show o+a.toNat * k<=o+n * k;omega};exact X be (by rw[V];simp[t])};cases l};cases l};cases m
theorem anb(j:Inv γ h0 io w0 s f w){T:TypeId}{x:Operand}{k p:u Operand}{y:KX}{a b:u KX}{c:C}(o:Ay P N (.slice T x k p O) (.MQ y a b)=I)(e:jl s (.MQ y a b)=Z c) :
  ∃v,CR γ w c v/\∀g,(execOp (fr f N).eval ⟨dst,.slice T x k p O,ty,pos,aft,gd⟩).run P g=.ok (.value v) g:=by simp only[Ay,aw]at o;obtain⟨⟨⟨r,B⟩,D⟩,h⟩:=o;have m:=cZ j r;unfold isStr at h;split at h;{rename_i A;simp only[jl]at e;split at e;{rename_i t F;rw[F]at m;obtain⟨q,H⟩:=Ez m;split at e;{rename_i l d G i;split at e;{rename_i n;simp only[ao]at e;subst e;refine⟨_,CB ?_,λg=>acR A q (AE j B G) (AE j D i) n.1 n.2⟩;rw[ByteArray.size_extract];omega};cases e};cases e};cases e};cases h
theorem am_(Q:Inv γ h0 io w0 s f w){T:TypeId}{x:Operand}{lo W:u Operand}{y:KX}{a b:u KX}{k:Nat}{c:C}(du:Ay P N (.slice T x lo W O) (.AO k y a b)=I)(i:jl s (.AO k y a b)=Z c) :
  ∃v,CR γ w c v/\∀r,(execOp (fr f N).eval ⟨dst,.slice T x lo W O,ty,pos,aft,gd⟩).run P r=.ok (.value v) r:=by simp only[Ay,aw]at du;obtain⟨⟨⟨hx,Vw⟩,R⟩,q⟩:=du;have K:=cZ Q hx;have q:=eq_of_beq q;unfold Md at q;split at q;{rename_i g hu;simp only[jl]at i;split at i;{rename_i m fl es hb;rw[hb]at K;split at i;{rename_i l d Fj H;split at i;{rename_i hc;obtain⟨rfl,c1,c2⟩:=hc;simp only[ao]at i;subst i;simp only[CR,Rp]at K;obtain⟨F,⟨A,n,V,q1,q2,q3,q4,q5,q6,B,q8⟩,jv⟩:=K;(have p:((es.take d).drop l).length=d - l:=by simp;omega);have t:∀e∈(es.take d).drop l,e∈es:=λe i=>ee (List.mem_of_mem_drop i);(have U:P3 (fr f N).eval W n d:=by rw[q2];exact AE Q R H);have nR:=λr=>acQ (w:=r) (dst:=dst) (ty:=ty) (pos:=pos) (aft:=aft) (gd:=gd) hu (λw=>run_sizeOf q w) q1 (AE Q Vw Fj) U c1 (by omega);refine⟨_,?_,nR⟩;by_cases h0:d - l=0;{simp only[CR,Rp];exact⟨[],⟨_,d - l,V - l,rfl,p.symm,by omega,by omega,λS e i=>q5 S e (t e i),q6,λe i=>B e (t e i),.inl ⟨h0,rfl⟩⟩,λ_ h=>by simp at h⟩};rcases q8 with q8|⟨hp,b,o,xs,G,p1,p2,p3,p4⟩;{omega};(have vK:¬V=l:=by omega);rw[<- ck d es]at p3;obtain⟨v1,v2,F1,F2,rfl,rfl,m0,_⟩:=g_.j5 _ p3;rw[<- ck l (es.take d)]at m0;obtain⟨Y,X,G1,G2,rfl,rfl,m1,m2⟩:=g_.j5 _ m0;have K0:=g_.length _ m1 (λe i=>B e (ee (ee i)));(have L:((es.take d).take l).length=l:=by simp;omega);rw[L]at K0;rw[if_neg vK,p1];simp only[CR,Rp];refine⟨(b,o+l * m+(d - l) * m)::G2,⟨Z ⟨b,o+l * m,O⟩,d - l,V - l,by simp[Addr.add],p.symm,by omega,by omega,λS e i=>q5 S e (t e i),q6,λe i=>B e (t e i),.inr ⟨by omega,b,o+l * m,X,G2,rfl,rfl,m2,?_⟩⟩,?_⟩;{intro j v hj;have e1:((Y++X)++v2)[Y.length+j]?=Z v:=by{rw[bh,jM (by omega),Nat.add_sub_cancel_left,eH (br.1 hj).1];exact hj};have e2:=p4 _ _ e1;rw[K0,<- gC]at e2;exact e2};intro be D;rcases aU.1 D with rfl|D;{have h9:=jv (b,o+n * m) (by rw[p2];simp);refine aV ?_ h9;(have h8:l * m+(d - l) * m=d * m:=by rw[<- mq];congr 1;omega);have h7:d * m<=n * m:=eK m (by omega);show o+l * m+(d - l) * m<=o+n * m;omega};exact jv be (by rw[p2];simp[D])};cases i};cases i};cases i};cases q
theorem am6(l:Inv γ h0 io w0 s f w){T:TypeId}{x:Operand}{y:KX}{i o:Nat}{c:C}(h:lS N x y=I)(a:agJ P T i o=I)(b:jl s (.fld o y)=Z c) :
  ∃v,CR γ w c v/\∀d,(execOp (fr f N).eval ⟨dst,.field T x i,ty,pos,aft,gd⟩).run P d=.ok (.value v) d:=by have e:=cZ l h;simp only[jl]at b;split at b;{rename_i A n;rw[n]at e;simp only[CR]at e;obtain⟨vs,r,q⟩:=e;rw[ek]at b;obtain⟨v,j,m⟩:=q.at_ b;unfold agJ at a;split at a;{rename_i fs k;split at a;{rename_i t g;simp only[aw,beq_iff_eq]at a;obtain⟨rfl,p⟩:=a;refine⟨v,m,λd=>?_⟩;simp[execOp,r,Instr.field,run_underlying k,g,part,tm p,asAgg,j]};cases a};cases a};cases b
theorem JK{γ:Gh}{w:World}:∀{g:M C} {vs:M Value} {d:M Nat},fi γ w g vs->GZ g=Z d->vs=d.map λb=>Value.pointer (Z ⟨γ.β b,0,O⟩)
 |[],vs,d,h,a=>by simp only[fi]at h;simp only[GZ,ao]at a;subst h a;rfl
 |c::g,vs,d,h,a=>by simp only[fi]at h;obtain⟨v,n,rfl,i,k⟩:=h;unfold GZ at a;split at a;{rename_i e;cases e};{rename_i b m e;cases e;obtain⟨l,j,rfl⟩:=ay.1 a;simp only[CR]at i;rw[i,JK k j];rfl};cases a
theorem am8(i:Inv γ h0 io w0 s f w){F:FuncId}{fs d:Array Operand}{ys:M KX}{c:C}(j:fs=#[])(g:GP N d.toList ys=I)(e:jl s (.mkf F ys)=Z c) :
  ∃v,CR γ w c v/\∀a,(execOp (fr f N).eval ⟨dst,.makeFunc (.func F) fs d,ty,pos,aft,gd⟩).run P a=.ok (.value v) a:=by subst j;have h:=AA i _ _ g;simp only[jl]at e;obtain⟨n,m,rfl⟩:=ay.1 e;have l:=JK h m;refine⟨_,rfl,λa=>?_⟩;(have k:d.map (fr f N).eval=(n.map λb=>Value.pointer (Z ⟨γ.β b,0,O⟩)).toArray:=by rw[<- l];apply Array.ext';rw[mI]);simp[execOp,Instr.makeFunc,k]
theorem ql(G:Inv γ h0 io w0 s f w){op:Op}{uU:KO}{c:C}(B:Ay P N op uU=I)(h:jl s uU=Z c) :
  ∃v,CR γ w c v/\∀l,(uU.QS=I->sG γ s w l)->(execOp (fr f N).eval ⟨dst,op,ty,pos,aft,gd⟩).run P l=.ok (.value v) l:=by have L:=B;unfold Ay at B;split at B;{simp only[jl,ao]at h;subst h;exact⟨_,cZ G B,λl _=>ew rfl⟩};{simp only[jl,ao]at h;subst h;exact⟨_,cZ G B,λl _=>fp rfl⟩};{simp only[aw]at B;obtain⟨⟨D,q⟩,S⟩:=B;simp only[jl]at h;split at h;{rename_i b H;have j:=cZ G D;rw[H]at j;have K:=tN j;simp only[ao]at h;subst h;cases b;{exact⟨_,cZ G S,λl _=>Pz K rfl⟩};exact⟨_,cZ G q,λl _=>PB K rfl⟩};cases h};{obtain⟨v,D,q⟩:=aed (dst:=dst) (ty:=ty) (pos:=pos) (aft:=aft) (gd:=gd) G L h;exact⟨v,D,λl _=>q l⟩};{obtain⟨v,D,q⟩:=ahM (dst:=dst) (ty:=ty) (pos:=pos) (aft:=aft) (gd:=gd) G L h;exact⟨v,D,λl hs=>q l (hs rfl)⟩};{obtain⟨v,D,q⟩:=aqp (dst:=dst) (ty:=ty) (pos:=pos) (aft:=aft) (gd:=gd) G L h;exact⟨v,D,λl _=>q l⟩};{obtain⟨v,D,q⟩:=aqq (dst:=dst) (ty:=ty) (pos:=pos) (aft:=aft) (gd:=gd) G L h;exact⟨v,D,λl _=>q l⟩};{obtain⟨v,D,q⟩:=anc (dst:=dst) (ty:=ty) (pos:=pos) (aft:=aft) (gd:=gd) G L h;exact⟨v,D,λl _=>q l⟩};{obtain⟨v,D,q⟩:=am7 (dst:=dst) (ty:=ty) (pos:=pos) (aft:=aft) (gd:=gd) G L h;exact⟨v,D,λl _=>q l⟩};{obtain⟨v,D,q⟩:=am9 (dst:=dst) (ty:=ty) (pos:=pos) (aft:=aft) (gd:=gd) G L h;exact⟨v,D,λl _=>q l⟩};{simp only[aw]at B;have e:=of_decide_eq_true B.1.1;subst e;obtain⟨v,D,q⟩:=am4 (dst:=dst) (ty:=ty) (pos:=pos) (aft:=aft) (gd:=gd) G L h;exact⟨v,D,λl _=>q l⟩};{simp only[aw]at B;have e:=of_decide_eq_true B.1.1.1;subst e;obtain⟨v,D,q⟩:=am3 (dst:=dst) (ty:=ty) (pos:=pos) (aft:=aft) (gd:=gd) G L h;exact⟨v,D,λl _=>q l⟩};{simp only[jl]at h;split at h;{rename_i b H;have j:=cZ G B;rw[H]at j;have K:=tN j;simp only[ao]at h;subst h;exact⟨_,jG,λl _=>agb K⟩};cases h};{simp only[jl]at h;split at h;{rename_i k a H;have j:=cZ G B;rw[H]at j;obtain⟨K,_⟩:=l7 j;simp only[ao]at h;subst h;exact⟨_,jC (wrap_wrap _ _),λl _=>by simp[execOp,K,Op.unary,Op.intArith]⟩};cases h};{simp only[aw,beq_iff_eq]at B;obtain⟨⟨D,q⟩,S⟩:=B;simp only[jl]at h;split at h;{rename_i k a H;have j:=cZ G D;rw[H]at j;obtain⟨K,_⟩:=l7 j;simp only[ao]at h;subst h;refine⟨_,jC (wrap_wrap _ _),λl _=>?_⟩;unfold ads at q S;split at S;{rename_i k' om;simp only[ao]at S;subst S;split at q;{rename_i k2 hk2;simp[execOp,convert,K,run_underlying om,run_underlying hk2,Conv.intToInt]};cases q};cases S};cases h};{rename_i W y;split at B;{rename_i x T R Q MK;simp only[aw]at B;obtain⟨D,q⟩:=B;obtain⟨V,args,Y⟩:=W;simp only at R Q MK;subst R;(have U:args=#[x]:=by rw[<- Q]);(have et:Y=#[T]:=by rw[<- MK]);subst U et;have j:=cZ G D;unfold QT at q;split at q;{rename_i d X;have wr:∀n:Nat,n<=maxLen->IntKind.i64.wrap (n:Int)=n:=λn hn=>iI (by simp[maxLen]at hn;omega);simp only[jl]at h;split at h;{rename_i k fl es H;rw[H]at j;simp only[CR,Rp]at j;obtain⟨F,⟨A,m,cc,q1,q2,q3,q4,_⟩,jv⟩:=j;simp only[ao]at h;subst h;subst q2;exact⟨_,jC (wr _ (by omega)),λl _=>HI X q1⟩};{rename_i k fl H;rw[H]at j;simp only[CR]at j;simp only[ao]at h;subst h;exact⟨_,jC (wr 0 (by omega)),λl _=>HI X j.1⟩};{rename_i r H;rw[H]at j;simp only[CR]at j;split at h;{rename_i row hl;simp only[ao]at h;subst h;obtain⟨F,hR,_,wY⟩:=G.rw r row hl;obtain⟨A,n',c',q1,q2,q3,q4,_⟩:=hR;subst q2;exact⟨_,jC (wr _ (by omega)),λl _=>HI X (j.1.trans q1)⟩};cases h};cases h};cases q};cases B};{rename_i W y;split at B;{rename_i x T R Q MK;simp only[aw]at B;obtain⟨D,q⟩:=B;obtain⟨V,args,Y⟩:=W;simp only at R Q MK;subst R;(have U:args=#[x]:=by rw[<- Q]);(have et:Y=#[T]:=by rw[<- MK]);subst U et;have j:=cZ G D;unfold isStr at q;split at q;{rename_i X;simp only[jl]at h;split at h;{rename_i t H;rw[H]at j;obtain⟨K,hl⟩:=Ez j;simp only[ao]at h;subst h;exact⟨_,jC (iI (by simp[maxLen]at hl;omega)),λl _=>ajM X K⟩};cases h};cases q};cases B};{rename_i W y y';split at B;{rename_i x x' R Q;simp only[aw]at B;obtain⟨V,args,Y⟩:=W;simp only at R Q;subst R;(have U:args=#[x,x']:=by rw[<- Q]);subst U;have j:=cZ G B.1;have MM:=cZ G B.2;simp only[jl]at h;split at h;{rename_i a b H mJ;rw[H]at j;rw[mJ]at MM;obtain⟨K,hw⟩:=l7 j;obtain⟨Ti,hw'⟩:=l7 MM;simp only[ao]at h;subst h;exact⟨_,jC (by split<;>assumption),λl _=>by simp[execOp,resolve,invoke,builtin,Builtin.min_,Builtin.min2,K,Ti]⟩};cases h};cases B};{rename_i W y y';split at B;{rename_i x x' R Q;simp only[aw]at B;obtain⟨V,args,Y⟩:=W;simp only at R Q;subst R;(have U:args=#[x,x']:=by rw[<- Q]);subst U;have j:=cZ G B.1;have MM:=cZ G B.2;simp only[jl]at h;split at h;{rename_i a b H mJ;rw[H]at j;rw[mJ]at MM;obtain⟨K,hw⟩:=l7 j;obtain⟨Ti,hw'⟩:=l7 MM;simp only[ao]at h;subst h;exact⟨_,jC (by split<;>assumption),λl _=>by simp[execOp,resolve,invoke,builtin,Builtin.max_,Builtin.max2,K,Ti]⟩};cases h};cases B};{simp only[aw,beq_iff_eq]at B;obtain⟨D,rfl⟩:=B;have j:=cZ G D;simp only[jl]at h;split at h;{rename_i cs H;rw[H]at j;simp only[CR]at j;obtain⟨vs,q,S⟩:=j;rw[ek]at h;obtain⟨v,K,hc⟩:=S.at_ h;exact⟨v,hc,λl _=>XN q (by simpa using K)⟩};cases h};{obtain⟨v,D,q⟩:=ana (dst:=dst) (ty:=ty) (pos:=pos) (aft:=aft) (gd:=gd) G L h;exact⟨v,D,λl _=>q l⟩};{obtain⟨v,D,q⟩:=anb (dst:=dst) (ty:=ty) (pos:=pos) (aft:=aft) (gd:=gd) G L h;exact⟨v,D,λl _=>q l⟩};{obtain⟨v,D,q⟩:=am_ (dst:=dst) (ty:=ty) (pos:=pos) (aft:=aft) (gd:=gd) G L h;exact⟨v,D,λl _=>q l⟩};{have j:=cZ G B;simp only[jl]at h;split at h;{rename_i b o H;simp only[ao]at h;subst h;rw[H]at j;refine⟨_,j,λl _=>?_⟩;simp only[CR]at j;simp[execOp,j]};{rename_i cs H;simp only[ao]at h;subst h;rw[H]at j;refine⟨_,j,λl _=>?_⟩;simp only[CR]at j;obtain⟨b,o,vs,F,j,_⟩:=j;simp[execOp,j]};{rename_i r k i o H;simp only[ao]at h;subst h;rw[H]at j;refine⟨_,j,λl _=>?_⟩;simp only[CR]at j;obtain⟨g,p,n,c,_,j⟩:=j;simp[execOp,j]};cases h};{obtain⟨v,D,q⟩:=am5 (dst:=dst) (ty:=ty) (pos:=pos) (aft:=aft) (gd:=gd) G L h;exact⟨v,D,λl hs=>q l (hs rfl)⟩};{simp only[aw]at B;obtain⟨v,D,q⟩:=am6 (dst:=dst) (ty:=ty) (pos:=pos) (aft:=aft) (gd:=gd) G B.1 B.2 h;exact⟨v,D,λl _=>q l⟩};{simp only[aw,beq_iff_eq]at B;obtain⟨⟨rfl,h0⟩,D⟩:=B;obtain⟨v,D,q⟩:=am8 (dst:=dst) (ty:=ty) (pos:=pos) (aft:=aft) (gd:=gd) G (Array.isEmpty_iff.1 h0) D h;exact⟨v,D,λl _=>q l⟩};cases B
end
end
section
open Go.RowKit
inductive FOk:Option Nat->Fm->Fm->Prop where
 |skip {f:Fm}:FOk none f f
 |put {d:Nat} {f:Fm} {v:Value}:FOk (some d) f (Iu f d v)
structure Tr (d:Option Nat) (X:List Nat) (γ:Gh) (w:World) (γ':Gh) (w':World) (f f':Fm):Prop where
 Yl:Bc γ (λo=>∃i∈X,o=.box i\/o=.row i) w w'
 β:∀b,d≠some b->γ'.β b=γ.β b
 h:∀g,γ.h g<=γ'.h g
 fr:FOk d f f'
def Bc.refl(c:Gh)(a:Own->Prop)(w:World):Bc c a w w:=⟨rfl,rfl,rfl,aI _,λ_ _ _=>rfl,λ_ _ _=>rfl,λ_ h=>h⟩
section
variable {γ:Gh} {h0:Nat->Nat} {io:M Nat} {w0:World} {s:St} {f:Fm} {w:World}
theorem lT(h:Inv γ h0 io w0 s f w){e:World}(b:J2 w.heap.size w e)(a:Own->Prop):Bc γ a w e where
 os:=b.os
 tape:=b.tape
 output:=b.output
 size:=b.size
 block g c _:=b.block g c
 cell g j i:=by rcases ed g w.heap.size with d|d;{exact World.cell?_of_block (w:=w) (b.block g d)};have:=h.fN g d;omega
 jq g c:=⟨bZ c.1 b.size,λj=>by rw[World.frozen?_of_block (w:=w) (b.block g c.1)];exact c.2 j⟩
theorem Inv.Ka(c:Inv γ h0 io w0 s f w){a:World}(e:J2 w.heap.size w a):Inv γ h0 io w0 s f a:=
 c.Yl (lT c e (λ_=>False)) (λh=>h) (λ_ h=>h.elim) (λ_ h=>h.elim)
theorem Inv.uI(a:Inv γ h0 io w0 s f w){g:Nat}(c:w.heap.size<=g):γ.ω g=.free:=by rcases jY (γ.ω g=.free) with h|h;{exact h};have:=(a.own g h).1;omega
theorem Inv.J6(a:Inv γ h0 io w0 s f w){b g:Nat}{T:TypeId}{vs:M Value}{D:M C}(hB:nt w g T vs)(G:γ.ω g=.free\/γ.ω g=.fK)(L:w0.heap.size<=g\/g∈io)(K:γ.h g=0)(N:fi γ w D vs) :
  ∃i,Inv i h0 io w0 (s.j8 b (C.jS b D)) f w/\i.β b=g/\(∀x,x≠b->i.β x=γ.β x)/\i.h=γ.h/\i.sl=γ.sl/\∀y,y≠g->i.ω y=γ.ω y:=by
 refine⟨{γ with β:=λx=>if x=b then g else γ.β x,ω:=λx=>if x=g then .box b else γ.ω x },?_,by simp,λx H=>by simp[H],rfl,rfl,λy j=>by simp[j]⟩;have mv:∀(c:C) {v:Value},CR γ w c v->CR {γ with β:=λx=>if x=b then g else γ.β x,ω:=λx=>if x=g then .box b else γ.ω x } w (C.kill b c) v:=λc v h=>
  by refine CR.move (γ:=γ) b ?_ ?_ ?_ ?_ c h<;>intros<;>first|exact aI _|rfl|simp_all
 have m:∀(c:M C) {v:M Value},fi γ w c v->fi {γ with β:=λx=>if x=b then g else γ.β x,ω:=λx=>if x=g then .box b else γ.ω x } w (C.jS b c) v:=λc v h=>
  by refine fi.move (γ:=γ) b ?_ ?_ ?_ ?_ c h<;>intros<;>first|exact aI _|rfl|simp_all
 exact {
  sl:=λd c l=>by simp[St.j8,St.gA,St.kill,yT]at l;obtain⟨p,o,rfl⟩:=l;exact mv p (a.sl d p o)
  bx:=λd c l=>by simp[St.j8,St.gA,St.kill,look,fO,yS]at l;by_cases hd:b=d;{subst hd;simp[if_true,ao]at l;subst l;exact⟨T,vs,by simpa using hB,m D N,by simp⟩};simp[if_neg hd]at l;obtain⟨p,o,rfl⟩:=l;obtain⟨Q,P,B,q,A⟩:=a.bx d p o;(have t:γ.β d≠g:=λe=>by rcases G with h|h<;>rw[e,h]at A<;>cases A);exact⟨Q,P,by simpa [ow hd] using B,m p q,by simp[ow hd,t,A]⟩
  rw:=λr x l=>by obtain⟨F,o,B,q⟩:=a.rw r x l;refine⟨F,o,B,λy j=>?_⟩;(have t:y≠g:=λe=>by have:=q y j;rcases G with h|h<;>rw[e,h]at this<;>cases this);simp[t,q y j]
  own:=λy j=>by by_cases n:y=g;{subst n;exact⟨hB.lt,L⟩};simp[if_neg n]at j;exact a.own y j
  nQ:=λy x j=>by by_cases n:y=g;{subst n;exact K};simp[if_neg n]at j;exact a.nQ y x j
  fN:=a.fN,os:=a.os,tape:=a.tape,output:=a.output,size:=a.size,frame:=a.frame,cell:=a.cell,mono:=a.mono,hold:=a.hold,jq:=a.jq }
theorem Inv.yg(a:Inv γ h0 io w0 s f w){r:Nat}{x:Row}{v:Value}{F:M Nat}(L:sF γ.h w x v F)(H:F.Nodup)(N:∀g∈F,(γ.ω g=.free\/γ.ω g=.fK\/γ.ω g=.row r)/\g<w.heap.size/\(w0.heap.size<=g\/g∈io)) :
  ∃i,Inv i h0 io w0 (s.newRow r x) f w/\i.sl r=v/\i.β=γ.β/\i.h=γ.h/\(∀g,g∉F->i.ω g=γ.ω g)/\∀q,q≠r->i.sl q=γ.sl q:=by
 refine⟨{γ with sl:=λq=>if q=r then v else γ.sl q,ω:=λy=>if y∈F then .row r else γ.ω y },?_,by simp,rfl,rfl,λg n=>by simp[n],λq K=>by simp[K]⟩;have mv:∀(c:C) {l:Value},CR γ w c l->CR {γ with sl:=λq=>if q=r then v else γ.sl q,ω:=λy=>if y∈F then .row r else γ.ω y } w (C.kill r c) l:=λc l h=>
  by refine CR.move (γ:=γ) r ?_ ?_ ?_ ?_ c h<;>intros<;>first|exact aI _|rfl|simp_all
 have A:∀(c:M C) {l:M Value},fi γ w c l->fi {γ with sl:=λq=>if q=r then v else γ.sl q,ω:=λy=>if y∈F then .row r else γ.ω y } w (C.jS r c) l:=λc l h=>
  by refine fi.move (γ:=γ) r ?_ ?_ ?_ ?_ c h<;>intros<;>first|exact aI _|rfl|simp_all
 exact {
  sl:=λd c j=>by simp[St.newRow,St.setRow,St.kill,yT]at j;obtain⟨p,o,rfl⟩:=j;exact mv p (a.sl d p o)
  bx:=λd c j=>by simp[St.newRow,St.setRow,St.kill,yS]at j;obtain⟨p,o,rfl⟩:=j;obtain⟨R,Q,G,D,P⟩:=a.bx d p o;refine⟨R,Q,G,A p D,?_⟩;have B:γ.β d∉F:=λe=>by{grind};simp[B,P]
  rw:=λq y j=>by simp[St.newRow,St.setRow,St.kill,look,fO]at j;by_cases hd:r=q;{subst hd;simp[if_true,ao]at j;subst j;exact⟨F,by simpa using L,H,λg n=>by simp[n]⟩};simp[if_neg hd]at j;obtain⟨S,o,G,D⟩:=a.rw q y j;refine⟨S,by simpa [ow hd] using o,G,λg n=>?_⟩;have B:g∉F:=λe=>by{grind};simp[B,D g n]
  own:=λy m=>by by_cases t:y∈F;{exact (N y t).2};simp[if_neg t]at m;exact a.own y m
  nQ:=λy x m=>by by_cases t:y∈F;{simp_all};simp[if_neg t]at m;exact a.nQ y x m
  fN:=a.fN,os:=a.os,tape:=a.tape,output:=a.output,size:=a.size,frame:=a.frame,cell:=a.cell,mono:=a.mono,hold:=a.hold,jq:=a.jq }
theorem Inv.setRow(a:Inv γ h0 io w0 s f w){r:Nat}{x:Row}{F:M Nat}(G:sF γ.h w x (γ.sl r) F)(D:F.Nodup)(H:∀g∈F,(γ.ω g=.free\/γ.ω g=.fK\/γ.ω g=.row r)/\g<w.heap.size/\(w0.heap.size<=g\/g∈io)) :
  ∃i,Inv i h0 io w0 (s.setRow r x) f w/\i.sl=γ.sl/\i.β=γ.β/\i.h=γ.h/\∀g,i.ω g=γ.ω g\/i.ω g=.row r:=by
 refine⟨{γ with ω:=λy=>if y∈F then .row r else γ.ω y },?_,rfl,rfl,rfl,λg=>by dsimp only;split<;>simp⟩;have mv:∀(c:C) {l:Value},CR γ w c l->CR {γ with ω:=λy=>if y∈F then .row r else γ.ω y } w c l:=λc l h=>
  by refine CR.mono (γ:=γ) ?_ ?_ ?_ ?_ c h<;>intros<;>first|exact aI _|rfl
 have o:∀(c:M C) {l:M Value},fi γ w c l->fi {γ with ω:=λy=>if y∈F then .row r else γ.ω y } w c l:=λc l h=>
  by refine fi.mono (γ:=γ) ?_ ?_ ?_ ?_ c h<;>intros<;>first|exact aI _|rfl
 exact {
  sl:=λd c j=>mv c (a.sl d c j)
  bx:=λd c j=>by obtain⟨P,N,B,A,K⟩:=a.bx d c j;refine⟨P,N,B,o c A,?_⟩;have p:γ.β d∉F:=λe=>by{grind};simp[p,K]
  rw:=λq y j=>by simp[St.setRow,look,fO]at j;by_cases hd:r=q;{subst hd;simp[if_true,ao]at j;subst j;exact⟨F,G,D,λg t=>by simp[t]⟩};simp[if_neg hd]at j;obtain⟨Q,L,B,A⟩:=a.rw q y j;refine⟨Q,L,B,λg t=>?_⟩;have p:g∉F:=λe=>by{grind};simp[p,A g t]
  own:=λy m=>by by_cases n:y∈F;{exact (H y n).2};simp[if_neg n]at m;exact a.own y m
  nQ:=λy x m=>by by_cases n:y∈F;{simp_all};simp[if_neg n]at m;exact a.nQ y x m
  fN:=a.fN,os:=a.os,tape:=a.tape,output:=a.output,size:=a.size,frame:=a.frame,cell:=a.cell,mono:=a.mono,hold:=a.hold,jq:=a.jq }
theorem Inv.gA(e:Inv γ h0 io w0 s f w){b:Nat}{T:TypeId}{vs:M Value}{g:M C}(hB:nt w (γ.β b) T vs)(h:γ.ω (γ.β b)=.box b)(i:fi γ w g vs):Inv γ h0 io w0 (s.gA b g) f w:=
 {e with
  bx:=λd c a=>by
   simp[St.gA,look,fO]at a;by_cases hd:b=d
   .subst hd;simp[if_true,ao]at a;subst a;exact⟨T,vs,hB,i,h⟩
   .simp[if_neg hd]at a;exact e.bx d c a }
theorem Inv.dP(a:Inv γ h0 io w0 s f w)(r:Nat):Inv γ h0 io w0 (s.dP r) f w:=
 a.sub (λ_ _ h=>h) (λ_ _ h=>h) (λd c h=>by
  simp[St.dP,fO]at h
  simp_all)
theorem Inv.take(D:Inv γ h0 io w0 s f w){r:Nat}{x:Row}(hl:look s.rw r=Z x) :
  ∃m G,Inv m h0 io w0 (s.dP r) f w/\m.β=γ.β/\m.sl=γ.sl/\(∀g,γ.h g<=m.h g)/\Rp w (.list x.k x.fl x.es) (γ.sl r) G/\
   ((x.deep && !x.fz)=J->dY m.h G)/\((x.deep && !x.fz)=I->(G.map fU).Nodup/\∀p∈G,m.ω p.1=.fK/\m.h p.1=0/\vq w p.1)/\
   (∀p∈G,γ.ω p.1=.row r\/x.deep=J)/\(∀g,γ.ω g≠.row r->m.ω g=γ.ω g/\m.h g=γ.h g)/\∀g,m.ω g=γ.ω g\/m.ω g=.fK\/m.ω g=.free:=by
 obtain⟨F,hR,ju,C⟩:=D.rw r x hl;obtain⟨A,n,c,V,U,T,S,R,Q,P,q8⟩:=hR;have K:=D.dP r;(have GK:∀g,γ.ω g=.row r->(∀b cs,look (s.dP r).bx b=Z cs->γ.ω g≠.box b)/\∀q y,look (s.dP r).rw q=Z y->γ.ω g≠.row q:=by{intro g L;refine⟨λb cs _=>by rw[L];simp,λq y Y=>?_⟩;rw[L];simp only[St.dP,fO]at Y;split at Y;{cases Y};rename_i iG;intro e;cases e;exact iG rfl});rcases q8 with ⟨rfl,rfl,rfl⟩|⟨g,o,xs,G,rfl,a2,a3,a4,a5,a6,a7,a8,a9,xA⟩;{refine⟨γ,[],K,rfl,rfl,λ_=>aI _,?_,λ_ _ h=>by simp at h,λ_=>by simp,λ_ h=>by simp at h,λ_ _=>⟨rfl,rfl⟩,λ_=>.inl rfl⟩;simp only[Rp];exact⟨O,n,0,V,U,T,S,P,R,Q,.inl ⟨by omega,trivial⟩⟩}
 .by_cases hn:n=0;{refine⟨γ,[],K,rfl,rfl,λ_=>aI _,?_,λ_ _ h=>by simp at h,λ_=>by simp,λ_ h=>by simp at h,λ_ _=>⟨rfl,rfl⟩,λ_=>.inl rfl⟩;simp only[Rp];exact⟨_,n,c,V,U,T,S,P,R,Q,.inl ⟨hn,trivial⟩⟩}
  ·(have tG:Rp w (.list x.k x.fl x.es) (γ.sl r) ((g,o+n * x.k)::G):=by{simp only[Rp];exact⟨_,n,c,V,U,T,S,P,R,Q,.inr ⟨by omega,g,o,xs,G,rfl,rfl,a4,a5⟩⟩});(have N:γ.ω g=.row r:=by{cases hd:x.deep with|true=>{exact C g (by rw[(a9 hd).1];simp)}|false=>exact C g (by rw[(xA hd).1];simp)});by_cases t:(x.deep && !x.fz)=I
   .simp only[aw,cx]at t;obtain⟨hF,hz⟩:=a9 t.1;have X:=K.settle (h':=γ.h) (ω':=λy=>if γ.ω y=.row r then .fK else γ.ω y) (λ_=>aI _) (λg L=>absurd rfl L)
     (λy=>by
      by_cases i:γ.ω y=.row r
      .exact .inr ⟨.inr (by simp[i]),by rw[i];simp,GK y i⟩
      .exact .inl (by simp[i]))
     (λy b i=>by
      by_cases B:γ.ω y=.row r
      .simp[B]at i
      .simp only[if_neg B]at i;exact D.nQ y b i)
    refine⟨_,(g,o+n * x.k)::G,X,rfl,rfl,λ_=>aI _,tG,λh=>by simp[t.1,t.2]at h,λ_=>⟨by rw[bc,<- hF];exact ju,λp j=>?_⟩,λp j=>.inl ?_,λy i=>by simp[i],λy=>by dsimp only;split<;>simp⟩;{rcases aU.1 j with rfl|j;{exact⟨by simp[N],a7 t.2,a3⟩};have hm:γ.ω p.1=.row r:=C _ (by rw[hF];simp;exact .inr ⟨p.2,j⟩);exact⟨by simp[hm],hz p j⟩};rcases aU.1 j with rfl|j;{exact N};exact C _ (by rw[hF];simp;exact .inr ⟨p.2,j⟩)
   .have H:∀p∈G,x.deep=I->γ.ω p.1=.row r:=λp j hd=>C _ (by rw[(a9 hd).1];simp;exact .inr ⟨p.2,j⟩);have fN:∃h':Nat->Nat,(∀y,γ.h y<=h' y)/\dY h' ((g,o+n * x.k)::G)/\∀y,γ.ω y≠.row r->h' y=γ.h y:=by{refine⟨λy=>if γ.ω y=.row r then γ.h y+((((g,o+n * x.k)::G).map sx).foldl max 0) else γ.h y,λy=>by dsimp only;split<;>omega,?_,λy i=>by simp[i]⟩;have mx:∀(l:M Nat) (a b:Nat),(b=a\/b∈l)->b<=l.foldl max a:=by{intro l;induction l with|nil=>{intro a b j;simp at j;simp[j]}|cons z l ih=>intro a b j;simp only[xu];have h1:=ih (max a z) (max a z) (.inl rfl);rcases j with rfl|j;{omega};rcases aU.1 j with rfl|j;{omega};exact ih _ _ (.inr j)};intro p j;have hle:=mx (((g,o+n * x.k)::G).map sx) 0 p.2 (.inr (dM j));by_cases i:γ.ω p.1=.row r;{simp only[i,if_true];omega};simp only[if_neg i];rcases aU.1 j with rfl|j;{exact absurd N i};cases hd:x.deep with|true=>{exact absurd (H p j hd) i}|false=>exact (xA hd).2 p j}
    obtain⟨h',m1,m2,W⟩:=fN;have X:=K.settle (h':=h') (ω':=λy=>if γ.ω y=.row r then .free else γ.ω y) m1
     (λy i=>by
      have hr:γ.ω y=.row r:=by
       rcases jY (γ.ω y=.row r) with h|h
       .exact h
       .exact absurd (W y h) i
      have ho:=D.own y (by rw[hr];simp);exact⟨ho.1,ho.2,GK y hr⟩)
     (λy=>by
      by_cases i:γ.ω y=.row r
      .exact .inr ⟨.inl (by simp[i]),by rw[i];simp,GK y i⟩
      .exact .inl (by simp[i]))
     (λy b i=>by
      by_cases B:γ.ω y=.row r
      .simp[B]at i
      .simp only[if_neg B]at i;rw[W y B];exact D.nQ y b i)
    refine⟨_,_,X,rfl,rfl,m1,tG,λ_=>m2,λh=>absurd h t,λp j=>?_,λy i=>by simp[i,W y i],λy=>by dsimp only;split<;>simp⟩;cases hd:x.deep with|false=>{exact .inr rfl}|true=>rcases aU.1 j with rfl|j;{exact .inl N};exact .inl (H p j hd)
end
def J2.next'{a w c:World}(h:J2 a.heap.size a w)(e:J2 w.heap.size w c):J2 a.heap.size a c:=YB h e h.size
section
variable {P:Program} {w:World}
def P0(w:World)(e:TypeId)(k n m:Nat)(h news:M Value)(v d:Value)(c:World):Prop:=
 (m=0/\d=v/\c=w)\/
 (∃g a T b,v=.slice (Z ⟨g,0,O⟩) n a/\nt w g T b/\d=.slice (Z ⟨g,0,O⟩) (n+m) a/\n+m<=a/\a<=maxLen/\b.length=a * k/\b.take (n * k)=h/\c=jD w g (.cells (eE b (n * k) news).toArray T (0,0)))\/
 (∃a f,d=.slice (Z ⟨w.heap.size,0,O⟩) (n+m) a/\n+m<=a/\a<=maxLen/\c.heap.size=w.heap.size+1/\J2 w.heap.size w c/\nt c w.heap.size e f/\f.length=a * k/\f.take ((n+m) * k)=h++news)
theorem ID{e:TypeId}{a:Array Value}{k n m old:Nat}{b news:M Value}{v:Value}(c:a.size=k)(hlen:(b++news).length=(n+m) * k)(f:n+m<=maxLen) :
  P0 w e k n m b news v (.slice (Z ⟨w.heap.size,0,O⟩) (n+m) (grownCap w (n+m) old e)) (w.drew.alloc (.cells (b.toArray++news.toArray++Builtin.zeroCells a (grownCap w (n+m) old e - (n+m))) e)):=by have g:=grownCap_ge w (n+m) old e;have d:grownCap w (n+m) old e<=maxLen:=grownCap_le_maxLen w (n+m) old e f;refine .inr (.inr ⟨_,(b++news)++(Builtin.zeroCells a (grownCap w (n+m) old e - (n+m))).toList,rfl,g,d,by rw[size_alloc];rfl,?_,?_,?_,?_⟩);{exact (YC w).drew.next' (IF w.drew _ _)};{have h:b.toArray++news.toArray++Builtin.zeroCells a (grownCap w (n+m) old e - (n+m))=((b++news)++(Builtin.zeroCells a (grownCap w (n+m) old e - (n+m))).toList).toArray:=by{apply Array.ext';simp};rw[h];exact nt.new w.drew e _};{rw[az,hlen,gp,size_zeroCells,c,<- mq];congr 1;omega};rw[<- hlen];exact oc
theorem Up{t ty e:TypeId}{i:TypeInfo}{a:Value}{k by_:Nat}(p:P.underlying t=Z (.slice e))(s:P.info? e=Z i)(hz:i.zero=Z a)(S:i.size=k)(R:i.bytes=by_)(F:a.cells.size=k)(hk:0<k)
  {v:Value} {n:Nat} {xs:M Value} (L:xs.length=n * k) (hv:(v=.slice O 0 0/\n=0)\/∃g d T f,v=.slice (Z ⟨g,0,O⟩) n d/\nt w g T f/\n<=d/\d<=maxLen/\f.length=d * k/\f.take (n * k)=xs)
  {u:Value} {m:Nat} {news:M Value} (D:news.length=m * k) (N:(m=0/\∃A c,u=.slice A 0 c)\/∃b o c,u=.slice (Z ⟨b,o,O⟩) m c/\jZ w b o news) (h1:∀y∈news,one y=I) (x:n+m<=maxLen) (U:(n+m) * by_<=room) :
  ∃v' Y,(Builtin.append_ #[t,t] ty #[v,u]).run P w=.ok v' Y/\
   P0 w e k n m xs news v v' Y:=by subst S;subst R;(have apW:n+m<=9223372036854775807:=by simp only[maxLen]at x;omega);have H:(n+m) * i.bytes<=140737488355328:=U;(have l:(xs++news).length=(n+m) * i.size:=by rw[az,L,D,mq]);by_cases hm:m=0;{subst hm;have hn:news=[]:=cD (by simpa using D);subst hn;refine⟨v,w,?_,.inl ⟨rfl,rfl,rfl⟩⟩;rcases hv with ⟨rfl,rfl⟩|⟨g,d,T,f,rfl,hB,W,G,X,V⟩;{rcases N with ⟨_,A,c,rfl⟩|⟨b,o,c,rfl,_⟩;{cases A<;>simp[Builtin.append_,run_underlying p,sizeOf,typeInfo,s,Builtin.lenOf,Builtin.firstCells,loadCells,loadCellsFrom]};simp[Builtin.append_,run_underlying p,sizeOf,typeInfo,s,Builtin.lenOf,Builtin.firstCells,loadCells,loadCellsFrom]};rcases N with ⟨_,A,c,rfl⟩|⟨b,o,c,rfl,_⟩;{cases A<;>simp[Builtin.append_,run_underlying p,sizeOf,typeInfo,s,Builtin.lenOf,Builtin.firstCells,loadCells,loadCellsFrom,W,storeCells]};simp[Builtin.append_,run_underlying p,sizeOf,typeInfo,s,Builtin.lenOf,Builtin.firstCells,loadCells,loadCellsFrom,W,storeCells]};rcases N with ⟨h,_⟩|⟨b,o,c,rfl,jm⟩;{omega};have B:∀j y,news[j]?=Z y->w.cell? ((⟨b,o,O⟩:Addr).add j)=Z y:=by{intro j y C;rw[rK];exact jm j y C};rcases hv with ⟨rfl,rfl⟩|⟨g,d,T,f,rfl,hB,W,G,X,V⟩;{have K:xs=[]:=cD (by simpa using L);subst K;have Q:=run_append_nil (P:=P) w t ty e i a p s hz ⟨b,o,O⟩ m c news D B (by omega) (by omega) (by have hb:=H;simp only[bF]at hb;omega);have hg:=ID (w:=w) (e:=e) (old:=0) (v:=.slice O 0 0) F l x;simp only[bF,Array.empty_append]at hg ⊢;exact⟨_,_,Q,hg⟩};by_cases q:n+m<=d;{(have BJ:n * i.size+news.length<=f.length:=by rw[D,X,<- mq];exact eK _ q);have hf:=run_firstCells_some (P:=P) w i.size m ⟨b,o,O⟩ m c news D B;have nY:=nK (P:=P) (o:=n * i.size) news 0 w f hB (by simpa using BJ) h1;simp only[dG]at nY;refine⟨_,_,?_,.inr (.inl ⟨g,d,T,f,rfl,hB,rfl,q,G,X,V,rfl⟩)⟩;simp[Builtin.append_,run_underlying p,sizeOf,typeInfo,s,Builtin.lenOf,q,hf,Addr.add_lit,nY]};have r:∀j y,xs[j]?=Z y->w.cell? ((⟨g,0,O⟩:Addr).add j)=Z y:=by{intro j y C;rw[rK,bF,hB.cell];rw[<- V,fq]at C;split at C;{exact C};cases C};have Q:=run_append_grow (P:=P) w t ty e i a p s hz ⟨g,0,O⟩ n d xs L r ⟨b,o,O⟩ m c news D B (by omega) (by omega) (growslice_fits (by omega) H);exact⟨_,_,Q,ID F l x⟩
end
end
section
open Go.RowKit
def HM(a:Gh)(w:World)(g:Nat):Prop:=a.ω g=.fK/\a.h g=0/\vq w g
section
variable {h0:Nat->Nat} {io:M Nat} {w0:World} {f:Fm} {w:World}
theorem vC:∀{i:M C} {s j:St} {g:M D} {l:Bool},HN s i=Z (g,l,j)->i.all C.cell=I/\g.length=i.length
 |[],s,j,g,l,h=>by simp[HN]at h;simp[<- h.1]
 |c::i,s,j,g,l,h=>by unfold HN at h;cases c with|d x=>{simp only[ay]at h;obtain⟨⟨m,e,n⟩,b,a⟩:=h;simp[aP]at a;have:=vC b;simp[C.cell,this.1,<- a.1,this.2]}|nil k o=>{simp only[ay]at h;obtain⟨⟨m,e,n⟩,b,a⟩:=h;simp[aP]at a;have:=vC b;simp[C.cell,this.1,<- a.1,this.2]}|ref r=>{simp only at h;split at h;{simp only[ay]at h;obtain⟨⟨m,e,n⟩,b,a⟩:=h;simp[aP]at a;have:=vC b;simp[C.cell,this.1,<- a.1,this.2]};cases h}|_=>simp at h
structure Emb (γ:Gh) (w:World) (dp:Bool) (G:Fp) (γ':Gh):Prop where
 β:γ'.β=γ.β
 sl:γ'.sl=γ.sl
 h:∀g,γ.h g<=γ'.h g
 some_:∀be∈G,be.2<=γ'.h be.1\/HM γ' w be.1
 deep:dp=true->(G.map fU).Nodup/\∀be∈G,HM γ' w be.1/\γ.ω be.1≠.fK
 fK:∀g,γ.ω g=.fK->γ'.ω g=.fK/\γ'.h g=γ.h g
 own:∀g,γ'.ω g=γ.ω g\/γ'.ω g=.fK\/γ'.ω g=.free
theorem zX:∀(p:M C) {q:Gh} {s Q:St} {vs:M Value} {R:M D} {S:Bool},Inv q h0 io w0 s f w->fi q w p vs->HN s p=Z (R,S,Q)->
  ∃γ' G,Inv γ' h0 io w0 Q f w/\fR w R vs G/\Emb q w S G γ'
 |[],q,s,Q,vs,R,S,K,L,l=>by simp[HN]at l;obtain⟨rfl,rfl,rfl⟩:=l;simp only[fi]at L;subst L;exact⟨q,[],K,by simp[fR],⟨rfl,rfl,λ_=>aI _,λ_ h=>by simp at h,λ_=>by simp,λ_ h=>⟨h,rfl⟩,λ_=>.inl rfl⟩⟩
 |c::p,q,s,Q,vs,R,S,K,L,l=>by simp only[fi]at L;obtain⟨v,X,rfl,t,Ie⟩:=L;unfold HN at l;cases c with|d x=>{simp only[ay]at l;obtain⟨⟨uP,P,s1⟩,N,o⟩:=l;simp only[aP]at o;obtain⟨rfl,rfl,rfl⟩:=o;obtain⟨γ',G,H,A,m⟩:=zX p K Ie N;simp only[CR]at t;obtain⟨F,hr,hs⟩:=t;refine⟨γ',F++G,H,by simp only[fR];exact⟨v,X,F,G,rfl,rfl,hr,A⟩,⟨m.β,m.sl,m.h,λj i=>?_,λhd=>?_,m.fK,m.own⟩⟩;{rcases aZ.1 i with i|i;{exact .inl (aV (hs j i) (m.h _))};exact m.some_ j i};simp only[aw]at hd;have hF:F=[]:=by{(have:fR w [x] [v] F:=by simp only[fR];exact⟨v,[],F,[],rfl,by simp,hr,rfl,rfl⟩);exact this.plain (by simp[hd.1])};subst hF;exact m.deep hd.2}|nil k fl=>{simp only[ay]at l;obtain⟨⟨uP,P,s1⟩,N,o⟩:=l;simp only[aP]at o;obtain⟨rfl,rfl,rfl⟩:=o;obtain⟨γ',G,H,A,m⟩:=zX p K Ie N;simp only[CR]at t;obtain⟨rfl,hk⟩:=t;refine⟨γ',G,H,?_,m⟩;simp only[fR];refine⟨_,X,[],G,rfl,rfl,?_,A⟩;simp only[Rp];exact⟨O,0,0,rfl,rfl,aI _,by simp[maxLen],λ_=>kR,hk,λ_ h=>by simp at h,.inl ⟨rfl,trivial⟩⟩}|ref r=>{simp only at l;split at l;{rename_i x hx;simp only[ay]at l;obtain⟨⟨uP,P,s1⟩,N,o⟩:=l;simp only[aP]at o;obtain⟨rfl,rfl,rfl⟩:=o;obtain⟨oZ,G1,H,b1,y,m1,A,V,d1,o1,k1,w1⟩:=K.take hx;obtain⟨n9,G2,i2,r2,n⟩:=zX p H (Ie.mono (γ':=oZ) m1 (λ_ _ _=>rfl) b1 y p) N;simp only[CR]at t;have up:∀j∈G1,(x.deep && !x.fz)=I->HM n9 w j.1:=λj i hd=>by{obtain⟨_,hl⟩:=d1 hd;obtain⟨W,B,l3⟩:=hl j i;obtain⟨U,T⟩:=n.fK _ W;exact⟨U,T.trans B,l3⟩};refine⟨n9,G1++G2,i2,by simp only[fR];exact⟨v,X,G1,G2,rfl,rfl,by rw[t.1];exact A,r2⟩,⟨n.β.trans b1,n.sl.trans y,λg=>aV (m1 g) (n.h g),λj i=>?_,λhd=>?_,λg hg=>?_,λg=>?_⟩⟩;{rcases aZ.1 i with i|i;{cases hd:(x.deep && !x.fz) with|true=>{exact .inr (up j i hd)}|false=>exact .inl (aV (V hd j i) (n.h _))};exact n.some_ j i};{rw[aw]at hd;obtain⟨hd1,hd2⟩:=hd;obtain⟨n1,W⟩:=d1 hd1;obtain⟨n2,B⟩:=n.deep hd2;(have Fe:x.deep=I:=by simp at hd1;exact hd1.1);refine⟨?_,λj i=>?_⟩;{rw[cC,cI];refine⟨n1,n2,?_⟩;intro a ha b i e;subst e;obtain⟨be1,BF,rfl⟩:=dx.1 ha;obtain⟨be2,iM,Y⟩:=dx.1 i;exact (B be2 iM).2 (by rw[Y];exact (W be1 BF).1)};rcases aZ.1 i with i|i;{refine⟨up j i hd1,?_⟩;rcases o1 j i with h|h;{rw[h];simp};rw[Fe]at h;cases h};refine⟨(B j i).1,λh=>(B j i).2 ?_⟩;rw[(k1 j.1 (by rw[h];simp)).1];exact h};{have h3:=k1 g (by rw[hg];simp);obtain⟨U,T⟩:=n.fK g (by rw[h3.1];exact hg);exact⟨U,T.trans h3.2⟩};rcases n.own g with h|h;{rw[h];exact w1 g};exact .inr h};cases l}|_=>simp at l
theorem Inv.aeN{e:Gh}{s:St}(p:Inv e h0 io w0 s f w)(G:Fp)(A:∀n∈G,n.2<=e.h n.1\/HM e w n.1) :
  ∃i,Inv i h0 io w0 s f w/\i.β=e.β/\i.sl=e.sl/\(∀g,e.h g<=i.h g)/\dY i.h G/\(∀g,e.ω g=.free->i.ω g=.free)/\∀g,e.ω g≠.fK->i.h g=e.h g:=by
 have mx:∀(l:M Nat) (a b:Nat),(b=a\/b∈l)->b<=l.foldl max a:=by{intro l;induction l with|nil=>{intro a b j;simp at j;simp[j]}|cons c l r=>intro a b j;simp;have C:=r (max a c) (max a c) (.inl rfl);rcases j with rfl|j;{omega};rcases aU.1 j with rfl|j;{omega};exact r _ _ (.inr j)}
 have t:=p.settle (h':=λy=>if e.ω y=.fK then e.h y+(G.map sx).foldl max 0 else e.h y) (ω':=λy=>if e.ω y=.fK then .free else e.ω y) (λy=>by split<;>omega)
  (λy o=>by
   have m:e.ω y=.fK:=by
    simp_all
   have B:=p.own y (by rw[m];simp);simp_all)
  (λy=>by
   by_cases m:e.ω y=.fK
   .simp_all
   simp_all)
  (λy b o=>by
   by_cases m:e.ω y=.fK
   .simp[m]at o
   .simp[if_neg m]at o ⊢;exact p.nQ y b o)
 refine⟨_,t,rfl,rfl,λy=>by dsimp only;split<;>omega,λn j=>?_,λg q=>by simp[q],λg q=>by simp[q]⟩;have x:=mx (G.map sx) 0 n.2 (.inr (dM j));dsimp only;split;{omega};rename_i m;rcases A n j with h|h;{exact h};exact absurd h.1 m
theorem Nx{k:Nat}{X:Bool}:∀(q:M C) {p:Gh} {s y:St} {vs:M Value} {es:M (M D)} {A:Bool},Inv p h0 io w0 s f w->fi p w q vs->EH k X s q=Z (es,A,y)->
  ∃γ' G,Inv γ' h0 io w0 y f w/\g_ w es (vs.flatMap λv=>v.cells.toList) G/\Emb p w A G γ'/\es.length=q.length/\(∀e∈es,e.length=k)/\(X=I->flat es)/\∀v∈vs,v.cells.size=k
 |[],p,s,y,vs,es,A,N,x,i=>by simp[EH]at i;obtain⟨rfl,rfl,rfl⟩:=i;simp only[fi]at x;subst x;exact⟨p,[],N,by simp[g_],⟨rfl,rfl,λ_=>aI _,λ_ h=>by simp at h,λ_=>by simp,λ_ h=>⟨h,rfl⟩,λ_=>.inl rfl⟩,rfl,λ_ h=>by simp at h,λ_=>kR,λ_ h=>by simp at h⟩
 |c::q,p,s,y,vs,es,A,N,x,i=>by simp only[fi]at x;obtain⟨v,fu,rfl,hv,Ie⟩:=x;unfold EH at i;split at i;{rename_i ds dp1 s1 W;split at i;{rename_i L;simp only[ay]at i;obtain⟨⟨mj,dp2,s2⟩,h2,V⟩:=i;simp only[aP]at V;obtain⟨rfl,rfl,rfl⟩:=V;obtain⟨CX,r⟩:=vC W;obtain⟨Y,_,_⟩:=hv.cells CX;obtain⟨S,G1,i1,r1,l⟩:=zX _ N Y W;obtain⟨T,G2,i2,r2,m,l2,k2,f2,z2⟩:=Nx q i1 (Ie.mono (γ':=S) l.h (λ_ _ _=>rfl) l.β l.sl q) h2;(have lW:v.cells.size=k:=by rw[<- gp,Y.length,<- r];exact L.1);have up:∀g,HM S w g->HM T w g:=λg t=>by{obtain⟨F,B⟩:=m.fK g t.1;exact⟨F,B.trans t.2.1,t.2.2⟩};refine⟨T,G1++G2,i2,?_,⟨m.β.trans l.β,m.sl.trans l.sl,λg=>aV (l.h g) (m.h g),λo j=>?_,λhd=>?_,λg t=>?_,λg=>?_⟩,by simp[l2],?_,?_,?_⟩;{simp only[g_,eJ];exact⟨_,_,G1,G2,rfl,rfl,r1,r2⟩};{rcases aZ.1 j with j|j;{rcases l.some_ o j with h|h;{exact .inl (aV h (m.h _))};exact .inr (up _ h)};exact m.some_ o j};{rw[aw]at hd;obtain⟨n1,H⟩:=l.deep hd.1;obtain⟨n2,n⟩:=m.deep hd.2;refine⟨?_,λo j=>?_⟩;{rw[cC,cI];refine⟨n1,n2,?_⟩;intro a ha b j e;subst e;obtain⟨R,BF,rfl⟩:=dx.1 ha;obtain⟨Q,iM,P⟩:=dx.1 j;exact (n Q iM).2 (by rw[P];exact (H R BF).1.1)};rcases aZ.1 j with j|j;{exact⟨up _ (H o j).1,(H o j).2⟩};refine⟨(n o j).1,λh=>(n o j).2 ?_⟩;exact (l.fK _ h).1};{obtain⟨F,B⟩:=l.fK g t;obtain⟨u3,u4⟩:=m.fK g F;exact⟨u3,u4.trans B⟩};{rcases m.own g with h|h;{rw[h];exact l.own g};exact .inr h};{intro e i;rcases aU.1 i with rfl|i;{exact L.1};exact k2 e i};{intro U e i;rcases aU.1 i with rfl|i;{have:=L.2 U;simpa [db] using this};exact f2 U e i};intro d K;rcases aU.1 K with rfl|K;{exact lW};exact z2 d K};cases i};cases i
end
end
section
open Go.RowKit
theorem CZ{b:Nat}:∀{c:M C},c.all C.const=I->C.jS b c=c
 |[],_=>by simp[C.jS]
 |a::c,h=>by simp only[cK,aw]at h;have d:=CZ (b:=b) h.2;have e:=h.1;cases a<;>simp_all[C.jS,C.kill,C.const]
def amW:Value->D->Bool
 | .int k n,.int d c=>k ==d && n ==c && k.wrap n ==n
 | .bool b,.bool e=>b ==e
 | .string s,.str a=>s.data.toList ==a.data.toList && jX s.size maxLen
 | .slice O 0 0,.list k _ []=>eP 0 k
 |_,_=>J
def GQ:M Value->M D->Bool
 |[],[]=>I
 |v::vs,c::cs=>amW v c && GQ vs cs
 |_,_=>J
theorem JH{w:World}:∀(vs:M Value) (b:M D),GQ vs b=I->fR w b vs []
 |[],[],_=>by simp[fR]
 |[],_::_,h=>by simp[GQ]at h
 |_::_,[],h=>by simp[GQ]at h
 |v::vs,d::b,h=>by simp only[GQ,aw]at h;simp only[fR];refine⟨v,vs,[],[],rfl,rfl,?_,JH vs b h.2⟩;have ok:=h.1;unfold amW at ok;split at ok;{simp only[aw,beq_iff_eq]at ok;obtain⟨⟨rfl,rfl⟩,a⟩:=ok;simp[Rp,a]};{simp only[beq_iff_eq]at ok;subst ok;simp[Rp]};{simp only[aw,beq_iff_eq,Nat.ble_eq]at ok;obtain⟨c,a⟩:=ok;rw[Me c]at a ⊢;simp[Rp,a]};{simp only[jO]at ok;simp only[Rp];exact⟨O,0,0,rfl,rfl,aI _,by simp[maxLen],λ_=>kR,ok,λ_ h=>by simp at h,.inl ⟨rfl,trivial⟩⟩};cases ok
section
variable {P:Program} {γ:Gh} {h0:Nat->Nat} {io:M Nat} {w0:World} {s s':St} {f:Fm} {w:World} {N:Nat} {ty:TypeId} {pos:String} {aft:Array Edge} {gd:u (Nat×Bool)} {K:Fm->World->Prop}
 {cf:Nat->M A->u (M A×M A)} {mf:Nat->Bool->M D->Int->u (M D×Int)}
theorem PD{T:TypeId}{a:M Value}(h:u0 P T=Z a):∃z0:Value,z0.cells.toList=a/\∀w,(zeroValue T).run P w=.ok z0 w:=by unfold u0 at h;cases c:P.info? T with|none=>{rw[c]at h;simp at h}|some i=>rw[c]at h;cases b:i.zero with|none=>{simp[b]at h}|some z0=>simp[b]at h;exact⟨z0,h,λw=>by simp[zeroValue,typeInfo,c,b]⟩
theorem ad2(d:Inv γ h0 io w0 s f w){T:TypeId}{a:M Value}{j:M C}{b:Nat}(t:u0 P T=Z a)(m:LW a j=I)(i:ml cf mf s (Z b) (.alloc j)=Z s')
  (h:∀c o k,Inv c h0 io w0 s' o k->Tr (Z b) [b] γ w c k f o->K o k):xz P N ⟨Z b,.alloc T,ty,pos,aft,gd⟩ f w K:=by simp only[ml]at i;split at i;{rename_i y;simp only[ao]at i;subst i;obtain⟨z0,n,l⟩:=PD t;have l:(execOp (fr f N).eval ⟨Z b,.alloc T,ty,pos,aft,gd⟩).run P w=.ok (.value (.pointer (Z ⟨w.heap.size,0,O⟩))) (w.alloc (.cells a.toArray T)):=by{simp[execOp,Instr.alloc,l,newVar,newRow,newObj,Sem.run,<- n]};refine OO l λr L p hB=>?_;have H:=d.Ka p;obtain⟨c,q,G,F,B,_,_⟩:=H.J6 (b:=b) hB (.inl (d.uI (aI _))) (.inl d.size) (d.fN _ (aI _)) (AB a j m);rw[CZ y]at q;refine h c _ r (q.put b (.ptr b 0) _ (by simp only[CR,G])) ⟨lT d p _,λx v=>F x (λe=>v (by rw[e])),λg=>by rw[B];exact aI _,.put⟩};cases i
theorem amy(a:Inv γ h0 io w0 s f w){T:TypeId}{x:Operand}{y:KX}{b:Nat}(i:lS N x y=I)(c:ml cf mf s (Z b) (.box y)=Z s')
  (h:∀γ' k d,Inv γ' h0 io w0 s' k d->Tr (Z b) [b] γ w γ' d f k->K k d):xz P N ⟨Z b,.box T x,ty,pos,aft,gd⟩ f w K:=by simp only[ml]at c;split at c;{rename_i o;simp only[ao]at c;subst c;obtain⟨B,_,_⟩:=(cZ a i).cells o;have n:(execOp (fr f N).eval ⟨Z b,.box T x,ty,pos,aft,gd⟩).run P w=.ok (.value (.pointer (Z ⟨w.heap.size,0,O⟩))) (w.alloc (.cells ((fr f N).eval x).cells.toList.toArray T)):=by{simp[execOp,Instr.box,newVar,newRow,newObj,Sem.run]};refine OO n λm C j hB=>?_;have v:=a.Ka j;have l:fi γ m (gG s y).cells ((fr f N).eval x).cells.toList:=B.mono (γ':=γ) (λ_=>aI _) (lT a j (λ_=>False)).cell rfl rfl _;obtain⟨γ',t,r,q,p,_,_⟩:=v.J6 (b:=b) hB (.inl (a.uI (aI _))) (.inl a.size) (a.fN _ (aI _)) l;refine h γ' _ m (t.put b (.ptr b 0) _ (by simp only[CR,r])) ⟨lT a j _,λx i=>q x (λe=>i (by rw[e])),λg=>by rw[p];exact aI _,.put⟩};cases c
theorem g_.Ka{w a:World}{es:M (M D)}{vs:M Value}{G:Fp}(h:g_ w es vs G)(b:J2 w.heap.size w a):g_ a es vs G:=
 h.ez es λd c j _=>World.cell?_of_block (w:=w) (b.block _ (g_.lt es h d c))
theorem Inv.newRow(l:Inv γ h0 io w0 s f w){γ0:Gh}{m:World}(o:J2 w.heap.size w m){T:TypeId}{y:M Value}(hB:nt m w.heap.size T y){es:M (M D)}{x:M Value}{k:Nat}{H dp:Bool}{G:Fp}{n c:Nat}(hs:m.heap.size=w.heap.size+1)
  (L:g_ w es x G) (hx:y.take (n * k)=x) (hn:n=es.length) (Vz:n<=c) (hc:c<=maxLen) (C:y.length=c * k) (wX:0<k) (KU:∀e∈es,e.length=k) (xF:H=I->flat es) (he:Emb γ0 w dp G γ) (r:Nat) :
  ∃i,Inv i h0 io w0 (s.newRow r ⟨es,k,H,dp,I,J⟩) f m/\i.sl r=.slice (Z ⟨w.heap.size,0,O⟩) n c/\i.β=γ.β/\(∀g,γ.h g<=i.h g):=by have B:jZ m w.heap.size 0 x:=by{intro j a F;rw[bF,hB.cell];rw[<- hx,fq]at F;split at F;{exact F};cases F};cases dp with|true=>{obtain⟨ju,Y⟩:=he.deep rfl;have W:=l.Ka o;have Q:sF γ.h m ⟨es,k,H,I,I,J⟩ (.slice (Z ⟨w.heap.size,0,O⟩) n c) (w.heap.size::G.map fU):=by{refine⟨_,n,c,rfl,hn,Vz,hc,wX,KU,xF,.inr ⟨w.heap.size,0,x,G,rfl,by omega,⟨by omega,o.RT _ (aI _)⟩,L.Ka o,B,by rw[l.fN _ (aI _)];omega,λ_=>l.fN _ (aI _),λ_=>⟨rfl,T,y,hB,C⟩,λ_=>⟨rfl,λq p=>⟨(Y q p).1.2.1,(lT l o (λ_=>False)).jq _ (Y q p).1.2.2⟩⟩,λh=>by cases h⟩⟩};have gf:=g_.lt es L;obtain⟨i,V,U,S,R,_⟩:=W.yg (r:=r) Q (cU.2 ⟨λhm=>by obtain⟨q,p,e⟩:=dx.1 hm;have:=gf q p;omega,ju⟩) (λg t=>by rcases aU.1 t with rfl|t;{exact⟨.inl (l.uI (aI _)),by omega,.inl l.size⟩};obtain⟨q,p,rfl⟩:=dx.1 t;have C:=(Y q p).1.1;exact⟨.inr (.inl C),by have:=gf q p;omega,(l.own _ (by rw[C];simp)).2⟩);exact⟨i,V,U,S,λg=>by rw[R];exact aI _⟩}|false=>obtain⟨n9,i2,b2,s2,m2,X,fr2,k2⟩:=l.aeN G he.some_;have W:=i2.Ka o;have Q:sF n9.h m ⟨es,k,H,J,I,J⟩ (.slice (Z ⟨w.heap.size,0,O⟩) n c) [w.heap.size]:=by{refine⟨_,n,c,rfl,hn,Vz,hc,wX,KU,xF,.inr ⟨w.heap.size,0,x,G,rfl,by omega,⟨by omega,o.RT _ (aI _)⟩,L.Ka o,B,by rw[i2.fN _ (aI _)];omega,λ_=>i2.fN _ (aI _),λ_=>⟨rfl,T,y,hB,C⟩,(λh=>by cases h),λ_=>⟨rfl,X⟩⟩⟩};obtain⟨i,V,U,S,R,_⟩:=W.yg (r:=r) Q (by simp) (λg t=>by simp only[bO]at t;subst t;exact⟨.inl (i2.uI (aI _)),by omega,.inl l.size⟩);exact⟨i,V,U,S.trans b2,λg=>by rw[R];exact m2 g⟩
def GO(N:Nat):Nat->M (Nat×Operand)->M KX->Bool
 |_,[],[]=>I
 |j,(i,x)::a,y::ys=>i ==j && lS N x y && GO N (j+1) a ys
 |_,_,_=>J
theorem JG(b:Inv γ h0 io w0 s f w):∀(j:Nat) (a:M (Nat×Operand)) (ys:M KX),GO N j a ys=I->
  fi γ w (ys.map (gG s)) (a.map λp=>(fr f N).eval p.2)/\a.map fU=List.range' j a.length/\a.length=ys.length
 |_,[],[],_=>by simp[fi]
 |_,[],_::_,h=>by simp[GO]at h
 |_,_::_,[],h=>by simp[GO]at h
 |j,(i,x)::a,y::ys,h=>by simp only[GO,aw,beq_iff_eq]at h;obtain⟨⟨rfl,k⟩,g⟩:=h;obtain⟨e,d,c⟩:=JG b (i+1) a ys g;refine⟨?_,by simp[List.range',d],by simp[c]⟩;simp only[bc,fi];exact⟨_,_,rfl,cZ b k,e⟩
theorem NS{k:Nat}:∀(vs:M (Nat×Value)) (j:Nat) (b A:M Value),b.length=j * k->vs.map fU=List.range' j vs.length->(∀v∈vs,v.2.cells.size=k)->A.length=vs.length * k->
  Instr.fill (λi=>Z (i * k,k)) (b++A).toArray vs=Z (b++vs.flatMap λv=>v.2.cells.toList).toArray
 |[],j,b,A,_,_,_,d=>by have:A=[]:=cD (by simpa using d);simp[Instr.fill,this]
 |(i,v)::vs,j,b,A,h,l,m,d=>by simp only[bc,aN,List.range',cr]at l;obtain⟨rfl,l⟩:=l;have g:=m (i,v) (by simp);simp only at g;simp only[aN,ov]at d;simp only[Instr.fill,tH,az,h,d,g];rw[if_neg (by simp)];have e:v.cells.zipIdx.foldl (λq (c,j)=>q.setIfInBounds (i * k+j) c) (b++A).toArray=((b++v.cells.toList)++A.drop k).toArray:=by{have n:=Ud (i * k) v.cells.toList (b++A).toArray (by simp[h,d,g]);simp only[Array.toArray_toList]at n;rw[n];congr 1;(have t1:(b++A).take (i * k)=b:=by rw[<- h];exact oc);have t2:(b++A).drop (i * k+k)=A.drop k:=by{rw[List.drop_append,cX (by omega),h,Nat.add_sub_cancel_left,av]};unfold eE;simp only[gp,g,t1,t2]};rw[e];have o:=NS vs (i+1) (b++v.cells.toList) (A.drop k) (by simp[h,g,ov]) l (λa p=>m a (by simp[p])) (by simp[d]);rw[o];simp
theorem ad3(H:Inv γ h0 io w0 s f w){T a:TypeId}{n k:Nat}{fl:Bool}{b:Array (Nat×Operand)}{ys:M KX}{r:Nat}(hU:P.underlying T=Z (.slice a))(hS:qn P a=Z k)(l:n=0\/(u0 P a).isSome=I)(F:GO N 0 b.toList ys=I)(hn:n=b.size)(hm:jX (n * k) 16777216=I)
  (e:ml cf mf s (Z r) (.uX k fl ys)=Z s') (h:∀d R t,Inv d h0 io w0 s' R t->Tr (Z r) (r::AN (ys.map (gG s))) γ w d t f R->K R t):xz P N ⟨Z r,.buildSlice T n b,ty,pos,aft,gd⟩ f w K:=by simp only[ml]at e;split at e;{rename_i es dp s1 L;split at e;{rename_i Y;simp only[ao]at e;subst e;obtain⟨Q,U,m⟩:=JG H 0 _ _ F;obtain⟨oZ,G,i1,r1,S,l1,k1,f1,z1⟩:=Nx _ H Q L;have lW:(b.toList.map λp=>(fr f N).eval p.2).flatMap (λv=>v.cells.toList)=(b.toList.map λp=>(p.1,(fr f N).eval p.2)).flatMap λv=>v.2.cells.toList:=by{simp[List.flatMap_map]};(have Oh:n=es.length:=by rw[l1,aj,<- m,hn,gp]);(have VE:((b.toList.map λp=>(fr f N).eval p.2).flatMap λv=>v.cells.toList).length=n * k:=by rw[g_.length es r1 k1,Oh]);(have hm':n * k<=16777216:=by simpa using hm);have nR:(execOp (fr f N).eval ⟨Z r,.buildSlice T n b,ty,pos,aft,gd⟩).run P w=.ok (.value (.slice (Z ⟨w.heap.size,0,O⟩) n n)) (w.alloc (.cells ((b.toList.map λp=>(fr f N).eval p.2).flatMap λv=>v.cells.toList).toArray a)):=by{(have q:¬(n * k > 2 ^ 24):=by omega);have V:∀A:Array Value,A.size=n * k->Instr.fill (λi=>Z (i * k,k)) A (b.toList.map λp=>(p.1,(fr f N).eval p.2))=Z ((b.toList.map λp=>(fr f N).eval p.2).flatMap λv=>v.cells.toList).toArray:=by{intro A hA;have h1:=NS (k:=k) (b.toList.map λp=>(p.1,(fr f N).eval p.2)) 0 [] A.toList (by simp) (by rw[List.map_map,aj];exact U) (by intro v hv;obtain⟨p,hp,rfl⟩:=dx.1 hv;exact z1 _ (dM hp)) (by simp[hA,hn]);rw[lW];simpa using h1};have o:=λX:Array Value=>V ((Array.range (n * k)).map (X[· % X.size]!)) (by simp);by_cases W:n * k=0;{have j:=o #[];simp only[execOp,Instr.buildSlice,Sem.run_bind,run_underlying hU,Result.andThen_ok,run_sizeOf hS,if_neg q,if_pos W,Sem.run_pure];simp only[mI]at j ⊢;rw[j];simp[newRow,newObj,Sem.run]};have y:(u0 P a).isSome=I:=by{rcases l with l|l;{subst l;simp at W};exact l};obtain⟨zl,C⟩:=cB.1 y;obtain⟨z0,_,B⟩:=PD C;have j:=o z0.cells;simp only[execOp,Instr.buildSlice,Sem.run_bind,run_underlying hU,Result.andThen_ok,run_sizeOf hS,if_neg q,if_neg W,B,Sem.run_pure];simp only[mI]at j ⊢;rw[j];simp[newRow,newObj,Sem.run]};refine OO nR λw1 hs hk hB=>?_;obtain⟨d,h2,j,h4,h5⟩:=i1.newRow hk hB (n:=n) (c:=n) hs r1 (by rw[<- VE,bq]) Oh (aI _) (by simp[maxLen];have:n<=n * k:=Nat.le_mul_of_pos_right n Y;omega) VE Y k1 f1 S r;refine h d _ w1 (h2.put r (.ref r) _ (by simp only[CR,j];exact⟨trivial,_,_,_,rfl⟩)) ⟨lT H hk _,λx _=>by rw[h4,S.β],λg=>aV (S.h g) (h5 g),.put⟩};cases e};cases e
end
end
section
open Go.RowKit
section
variable {γ:Gh} {h0:Nat->Nat} {io:M Nat} {w0:World} {s s':St} {f:Fm} {w:World}
theorem Inv.AD(C:Inv γ h0 io w0 s f w){r:Nat}{x:Row}(hl:look s.rw r=Z x) :
  ∃a A n c,Inv a h0 io w0 (s.dP r) f w/\a.β=γ.β/\a.sl=γ.sl/\a.h=γ.h/\(∀g,γ.ω g≠.row r->a.ω g=γ.ω g)/\(∀g,γ.ω g=.row r->a.ω g=.fK)/\
   γ.sl r=.slice A n c/\n=x.es.length/\n<=c/\c<=maxLen/\0<x.k/\(∀e∈x.es,e.length=x.k)/\(x.fl=I->flat x.es)/\
   ((A=O/\c=0)\/∃g o p G,A=Z ⟨g,o,O⟩/\g<w.heap.size/\γ.ω g=.row r/\a.ω g=.fK/\vq w g/\g_ w x.es p G/\jZ w g o p/\γ.h g<=o+n * x.k/\(x.fz=J->γ.h g=0)/\
    (x.app=I->o=0/\∃T vs,nt w g T vs/\vs.length=c * x.k)/\(∀i∈G,i.2<=γ.h i.1\/(HM a w i.1/\i.1≠g))/\(x.deep=I->(g::G.map fU).Nodup/\∀i∈G,HM a w i.1/\γ.ω i.1=.row r)):=by
 obtain⟨F,hR,B,t⟩:=C.rw r x hl;obtain⟨A,n,c,q1,Y,X,W,V,U,S,R⟩:=hR;have Q:=C.dP r;have GK:∀g,γ.ω g=.row r->(∀b K,look (s.dP r).bx b=Z K->γ.ω g≠.box b)/\∀q y,look (s.dP r).rw q=Z y->γ.ω g≠.row q:=by{intro g l;refine⟨λb K _=>by rw[l];simp,λq y hq=>?_⟩;simp only[St.dP,fO]at hq;simp_all}
 have hs:=Q.settle (h':=γ.h) (ω':=λy=>if γ.ω y=.row r then .fK else γ.ω y) (λ_=>aI _) (λg l=>absurd rfl l)
  (λy=>by
   by_cases j:γ.ω y=.row r
   .exact .inr ⟨.inr (by simp[j]),by rw[j];simp,GK y j⟩
   .exact .inl (by simp[j]))
  (λy b j=>by
   by_cases L:γ.ω y=.row r
   .simp[L]at j
   .simp only[if_neg L]at j;exact C.nQ y b j)
 refine⟨_,A,n,c,hs,rfl,rfl,rfl,λg l=>by simp[l],λg l=>by simp[l],q1,Y,X,W,V,U,S,?_⟩;rcases R with ⟨rfl,rfl,rfl⟩|⟨g,o,p,G,rfl,a2,a3,a4,a5,a6,a7,a8,a9,D⟩;{exact .inl ⟨rfl,rfl⟩};have N:γ.ω g=.row r:=by{cases hd:x.deep with|true=>{exact t g (by rw[(a9 hd).1];simp)}|false=>exact t g (by rw[(D hd).1];simp)};have P:x.deep=I->∀i∈G,HM {γ with h:=γ.h,ω:=λy=>if γ.ω y=.row r then .fK else γ.ω y } w i.1/\γ.ω i.1=.row r:=λhd i m=>by{have H:γ.ω i.1=.row r:=t _ (by rw[(a9 hd).1];simp;exact .inr ⟨i.2,m⟩);exact⟨⟨by simp[H],((a9 hd).2 i m).1,((a9 hd).2 i m).2⟩,H⟩};refine .inr ⟨g,o,p,G,rfl,a2,N,by simp[N],a3,a4,a5,a6,a7,a8,λi m=>?_,λhd=>⟨by rw[<- (a9 hd).1];exact B,P hd⟩⟩;cases hd:x.deep with|true=>{refine .inr ⟨(P hd i m).1,λe=>?_⟩;rw[(a9 hd).1]at B;exact (cU.1 B).1 (by rw[<- e];exact dM m)}|false=>exact .inl ((D hd).2 i m)
theorem Inv.IS(B:Inv γ h0 io w0 s f w){r:Nat}{x:Row}{n c g o:Nat}{D:M Value}{G:Fp}(W:n=x.es.length)(Vz:n<=c)(Y:c<=maxLen)(Q:0<x.k)(KU:∀e∈x.es,e.length=x.k)(N:x.fl=I->flat x.es)
  (H:g<w.heap.size) (P:γ.ω g=.fK\/γ.ω g=.free) (Jf:w0.heap.size<=g\/g∈io) (A:vq w g) (K:g_ w x.es D G) (m:jZ w g o D) (X:γ.h g<=o+n * x.k) (Tg:x.fz=J->γ.h g=0) (R:x.app=I->o=0/\∃T vs,nt w g T vs/\vs.length=c * x.k)
  (Ol:∀q∈G,q.2<=γ.h q.1\/(HM γ w q.1/\q.1≠g)) (Fe:x.deep=I->(g::G.map fU).Nodup/\∀q∈G,HM γ w q.1) :
  ∃j F,Inv j h0 io w0 s f w/\j.β=γ.β/\j.sl=γ.sl/\(∀y,γ.h y<=j.h y)/\sF j.h w x (.slice (Z ⟨g,o,O⟩) n c) F/\F.Nodup/\(∀y∈F,(j.ω y=.free\/j.ω y=.fK\/j.ω y=.row r)/\y<w.heap.size/\(w0.heap.size<=y\/y∈io))/\(x.deep=J->dY j.h G)/\(∀y,j.ω y=γ.ω y\/j.ω y=.free):=by
 cases hd:x.deep with
 |true=>obtain⟨ju,K1⟩:=Fe hd;have L:sF γ.h w x (.slice (Z ⟨g,o,O⟩) n c) (g::G.map fU):=by{refine⟨_,n,c,rfl,W,Vz,Y,Q,KU,N,.inr ⟨g,o,D,G,rfl,H,A,K,m,X,Tg,R,λ_=>⟨rfl,λq p=>(K1 q p).2⟩,λh=>by rw[hd]at h;cases h⟩⟩};have gf:=g_.lt _ K;exact⟨γ,_,B,rfl,rfl,λ_=>aI _,L,ju,λy t=>by rcases aU.1 t with rfl|t;{exact⟨by rcases P with h|h<;>simp[h],H,Jf⟩};obtain⟨q,p,rfl⟩:=dx.1 t;have m:=(K1 q p).1;exact⟨.inr (.inl m),gf q p,(B.own _ (by rw[m];simp)).2⟩,(λh=>by cases h),λ_=>.inl rfl⟩
 |false=>
  have mx:∀(l:M Nat) (a b:Nat),(b=a\/b∈l)->b<=l.foldl max a:=by{intro l;induction l with|nil=>{intro a b p;simp at p;simp[p]}|cons i l U=>intro a b p;simp only[xu];have h1:=U (max a i) (max a i) (.inl rfl);rcases p with rfl|p;{omega};rcases aU.1 p with rfl|p;{omega};exact U _ _ (.inr p)}
  have hs:=B.settle (h':=λy=>if γ.ω y=.fK/\y≠g then γ.h y+(G.map sx).foldl max 0 else γ.h y) (ω':=λy=>if γ.ω y=.fK/\y≠g then .free else γ.ω y) (λy=>by split<;>omega)
   (λy t=>by
    have m:γ.ω y=.fK:=by
     simp_all
    have V:=B.own y (by rw[m];simp);exact⟨V.1,V.2,λ_ _ _=>by rw[m];simp,λ_ _ _=>by rw[m];simp⟩)
   (λy=>by
    by_cases m:γ.ω y=.fK/\y≠g
    .simp_all
    .exact .inl (by rw[if_neg m]))
   (λy b t=>by
    by_cases m:γ.ω y=.fK/\y≠g
    .rw[if_pos m]at t;cases t
    .rw[if_neg m]at t ⊢;exact B.nQ y b t)
  (have S:dY (λy=>if γ.ω y=.fK/\y≠g then γ.h y+(G.map sx).foldl max 0 else γ.h y) G:=by{intro q p;have hle:=mx (G.map sx) 0 q.2 (.inr (dM p));dsimp only;split;{omega};rename_i m;rcases Ol q p with h|h;{exact h};exact absurd ⟨h.1.1,h.2⟩ m});(have C:(λy=>if γ.ω y=.fK/\y≠g then γ.h y+(G.map sx).foldl max 0 else γ.h y) g=γ.h g:=by simp);(have L:sF (λy=>if γ.ω y=.fK/\y≠g then γ.h y+(G.map sx).foldl max 0 else γ.h y) w x (.slice (Z ⟨g,o,O⟩) n c) [g]:=by{refine⟨_,n,c,rfl,W,Vz,Y,Q,KU,N,.inr ⟨g,o,D,G,rfl,H,A,K,m,by rw[C];exact X,λh=>by rw[C];exact Tg h,R,(λh=>by rw[hd]at h;cases h),λ_=>⟨rfl,S⟩⟩⟩});exact⟨_,[g],hs,rfl,rfl,λy=>by dsimp only;split<;>omega,L,by simp,λy t=>by simp only[bO]at t;subst t;refine⟨?_,H,Jf⟩;rcases P with h|h<;>simp[h],λ_=>S,λy=>by dsimp only;split<;>simp⟩
theorem Inv.zO(S:Inv γ h0 io w0 s f w){r:Nat}{x:Row}{n c g o:Nat}{l:M Value}{G:Fp}(Q:n=x.es.length)(Vz:n<=c)(W:c<=maxLen)(t:0<x.k)(KU:∀e∈x.es,e.length=x.k)(m:x.fl=I->flat x.es)
  (V:g<w.heap.size) (p:γ.ω g=.fK\/γ.ω g=.free) (Jf:w0.heap.size<=g\/g∈io) (j:vq w g) (N:g_ w x.es l G) (R:jZ w g o l) (U:γ.h g<=o+n * x.k) (Tg:x.fz=J->γ.h g=0) (A:x.app=I->o=0/\∃T vs,nt w g T vs/\vs.length=c * x.k)
  (Ol:∀i∈G,i.2<=γ.h i.1\/(HM γ w i.1/\i.1≠g)) (Fe:x.deep=I->(g::G.map fU).Nodup/\∀i∈G,HM γ w i.1) :
  ∃a,Inv a h0 io w0 (s.newRow r x) f w/\a.sl r=.slice (Z ⟨g,o,O⟩) n c/\a.β=γ.β/\(∀y,γ.h y<=a.h y)/\∀q,q≠r->a.sl q=γ.sl q:=by obtain⟨oZ,F,H,b1,B,C,X,D,Y,L,K⟩:=S.IS (r:=r) Q Vz W t KU m V p Jf j N R U Tg A Ol Fe;obtain⟨a,h2,h3,h4,h5,_,h6⟩:=H.yg (r:=r) X D Y;exact⟨a,h2,h3,h4.trans b1,λy=>by rw[h5];exact C y,λq P=>by rw[h6 q P,B]⟩
theorem Inv.wM(V:Inv γ h0 io w0 s f w){r:Nat}{x:Row}{n c g o:Nat}{q:M Value}{G:Fp}(S:n=x.es.length)(Vz:n<=c)(Y:c<=maxLen)(H:0<x.k)(KU:∀e∈x.es,e.length=x.k)(C:x.fl=I->flat x.es)
  (X:g<w.heap.size) (D:γ.ω g=.fK\/γ.ω g=.free) (Jf:w0.heap.size<=g\/g∈io) (l:vq w g) (R:g_ w x.es q G) (U:jZ w g o q) (W:γ.h g<=o+n * x.k) (Tg:x.fz=J->γ.h g=0) (K:x.app=I->o=0/\∃T vs,nt w g T vs/\vs.length=c * x.k)
  (Ol:∀i∈G,i.2<=γ.h i.1\/(HM γ w i.1/\i.1≠g)) (Fe:x.deep=I->(g::G.map fU).Nodup/\∀i∈G,HM γ w i.1) (L:γ.sl r=.slice (Z ⟨g,o,O⟩) n c) :
  ∃a,Inv a h0 io w0 (s.setRow r x) f w/\a.sl=γ.sl/\a.β=γ.β/\(∀y,γ.h y<=a.h y)/\(x.deep=J->dY a.h G)/\(∀y,a.ω y=γ.ω y\/a.ω y=.free\/a.ω y=.row r):=by obtain⟨oZ,F,Q,b1,t,N,A,P,hF,m,j⟩:=V.IS (r:=r) S Vz Y H KU C X D Jf l R U W Tg K Ol Fe;rw[<- L,<- t]at A;obtain⟨a,h2,h3,h4,B,h6⟩:=Q.setRow (r:=r) A P hF;exact⟨a,h2,h3.trans t,h4.trans b1,λy=>by rw[B];exact N y,λhd=>by rw[B];exact m hd,λy=>by rcases h6 y with h|h;{rw[h];rcases j y with p|p;{exact .inl p};exact .inr (.inl p)};exact .inr (.inr h)⟩
theorem od(m:Inv γ h0 io w0 s f w){g:Nat}{b:World}{M:Own->Prop}(a:Yi g w b)(l:M (γ.ω g))(k:∀j,j<γ.h g->b.cell? ⟨g,j,O⟩=w.cell? ⟨g,j,O⟩):Bc γ M w b where
 os:=a.os
 tape:=a.tape
 output:=a.output
 size:=by rw[a.size];exact aI _
 block y c d:=a.block y (λe=>d (e▸l))
 cell y j i:=by by_cases e:y=g;{subst e;exact k j i};exact World.cell?_of_block (w:=w) (a.block y e)
 jq y c:=⟨by rw[a.size];exact c.1,λj=>by
  by_cases e:y=g
  .subst e;exact a.fz j
  .rw[World.frozen?_of_block (w:=w) (a.block y e)];exact c.2 j⟩
end
def Rw(p m q a:M Value)(h:a.length=m.length):eE (p++(m++q)) p.length a=p++a++q:=by unfold eE;simp_all
def zh{a vs:M Value}{i:Nat}(h:i+vs.length<=a.length):(eE a i vs).length=a.length:=by unfold eE;simp;omega
def Q_{g:Nat}{d b e Gs c a:Fp}(h:(g::(d++((b++(e++Gs))++c)).map fU).Nodup)(i:(a.map fU).Nodup)(hd:∀y∈(d++((b++(e++Gs))++c)).map fU,y∉a.map fU)(f:g∉a.map fU) :
  (g::(d++((b++a++Gs)++c)).map fU).Nodup:=by simp only[cC,cU,aZ,cI,not_or]at *;grind
section
variable {P:Program} {γ:Gh} {h0:Nat->Nat} {io:M Nat} {w0:World} {s s':St} {f:Fm} {w:World} {N:Nat} {ty:TypeId} {pos:String} {aft:Array Edge} {gd:u (Nat×Bool)} {K:Fm->World->Prop}
 {cf:Nat->M A->u (M A×M A)} {mf:Nat->Bool->M D->Int->u (M D×Int)}
theorem Jy{a:Array Value}{k:Nat}(c:a.size=k)(g:0<k):∀m:Nat,(madeCells a (m * k)).toList=(a_ m a.toList).flatten
 |0=>by simp[madeCells]
 |m+1=>by rw[ir,List.flatten_cons,<- Jy c g m];apply gq;intro i;have e:∀n j,(madeCells a n).toList[j]?=if j<n then Z a[j % a.size]! else O:=by{intro n j;simp only[madeCells,mI,Array.toList_range,List.getElem?_map];split;{rename_i h;simp[h]};rename_i h;simp[h]};rw[e,zt,e];simp only[gp,c,ov];by_cases b:i<k;{rw[if_pos (by omega),if_pos b,Nat.mod_eq_of_lt b];simp[c,b]};rw[if_neg b];by_cases d:i<m * k+k;{rw[if_pos d,if_pos (by omega)];rw[Nat.mod_eq_sub_mod (by omega)]};rw[if_neg d,if_neg (by omega)]
theorem Ug{w:World}{a:M D}{vs:M Value}(h:fR w a vs []):∀m:Nat,g_ w (a_ m a) (a_ m vs).flatten []
 |0=>by simp[g_]
 |m+1=>by rw[ir,ir,List.flatten_cons];simp only[g_];exact⟨vs,_,[],[],rfl,rfl,h,Ug h m⟩
theorem ahG(B:Inv γ h0 io w0 s f w){T b:TypeId}{k l:Nat}{fl:Bool}{o:M D}{x F:Operand}{y:KX}{r:Nat}{i:TypeInfo}{a:Value}(hU:P.underlying T=Z (.slice b))(hI:P.info? b=Z i)(hz:i.zero=Z a)(lW:i.size=k)(R:i.bytes=l)(W:0<k)(H:GQ a.cells.toList o=I)(p:o.length=k)(xF:fl=I->db o=I)
  (t:lS N x y=I) (Q:lS N F y=I) (d:ml cf mf s (Z r) (.make k l fl o y)=Z s') (h:∀j S G,Inv j h0 io w0 s' S G->Tr (Z r) [r] γ w j G f S->K S G):xz P N ⟨Z r,.makeSlice T x F,ty,pos,aft,gd⟩ f w K:=by have v:=cZ B t;have C:=cZ B Q;simp only[ml]at d;split at d;{rename_i r' n hr hn;cases hr;rw[hn]at v C;obtain⟨v,_⟩:=l7 v;obtain⟨C,_⟩:=l7 C;split at d;{rename_i hc;obtain⟨c1,c2,c3⟩:=hc;simp only[ao]at d;subst d;have BF:(i.bytes:Int) * n<=281474976710656:=by{rw[R];have U:n.toNat * l<=140737488355328:=c2;have:((n.toNat * l:Nat):Int)<=140737488355328:=Int.ofNat_le.2 U;rw[Int.natCast_mul,Int.toNat_of_nonneg c1,Int.mul_comm]at this;omega};have X:=run_make (P:=P) w T b i a hU hI hz .i64 .i64 n n c1 (Int.le_refl _) BF (by omega);have q:fR w o a.cells.toList []:=JH _ _ H;(have L:a.cells.size=k:=by rw[<- gp,fR.length _ q,p]);have vk:=Jy L W n.toNat;have V:(execOp (fr f N).eval ⟨Z r,.makeSlice T x F,ty,pos,aft,gd⟩).run P w=.ok (.value (.slice (Z ⟨w.heap.size,0,O⟩) n.toNat n.toNat)) (w.alloc (.cells (a_ n.toNat a.cells.toList).flatten.toArray b)):=by{rw[lW]at X;rw[<- vk];simp[execOp,v,C,X]};have VA:=Ug q n.toNat;(have KU:∀e∈a_ n.toNat o,e.length=k:=λe d=>by rw[(List.mem_replicate.1 d).2];exact p);(have m:((a_ n.toNat a.cells.toList).flatten).length=n.toNat * k:=by rw[g_.length _ VA KU];simp);refine OO V λw1 hs Y hB=>?_;obtain⟨j,h2,h3,h4,h5⟩:=B.newRow (γ0:=γ) (dp:=I) Y hB (n:=n.toNat) (c:=n.toNat) hs VA (by rw[<- m,bq]) (by simp) (aI _) (by simp[maxLen];omega) m W KU (λhf e d x t=>by have h1:=xF hf;rw[(List.mem_replicate.1 d).2]at t;simp only[db,bG]at h1;exact h1 x t) ⟨rfl,rfl,λ_=>aI _,λ_ h=>by simp at h,λ_=>by simp,λ_ h=>⟨h,rfl⟩,λ_=>.inl rfl⟩ r;exact h j _ w1 (h2.put r (.ref r) _ (by simp only[CR,h3];exact⟨trivial,_,_,_,rfl⟩)) ⟨lT B Y _,λx _=>by rw[h4],λg=>h5 g,.put⟩};cases d};cases d
theorem aqe(hi:Inv γ h0 io w0 s f w){T:TypeId}{x v:Operand}{a b:KX}{n:Nat}(hS:qn P T=Z n)(hx:lS N x a=I)(hv:lS N v b=I)(L:ml cf mf s O (.st n a b)=Z s')
  (h:∀γ' f' w',Inv γ' h0 io w0 s' f' w'->Tr O (gm s O (.st n a b)) γ w γ' w' f f'->K f' w'):xz P N ⟨O,.store T x v,ty,pos,aft,gd⟩ f w K:=by
 have xV:=cZ hi hx;have hpv:=cZ hi hv;(have fin:∀(g o:Nat) (R:TypeId) (Q:List Value),(fr f N).eval x=.pointer (Z ⟨g,o,O⟩)->nt w g R Q->((fr f N).eval v).cells.toList.length=n->o+n<=Q.length->(∀q∈((fr f N).eval v).cells.toList,one q=I)-> (execOp (fr f N).eval ⟨O,.store T x v,ty,pos,aft,gd⟩).run P w=.ok .skip (jD w g (.cells (eE Q o ((fr f N).eval v).cells.toList).toArray R (0,0))):=by{intro g o R Q hp hB hl ho h1;have nY:=nK (P:=P) (o:=o) ((fr f N).eval v).cells.toList 0 w Q hB (by omega) h1;simp only[dG]at nY;(have lW:((fr f N).eval v).cells.size=n:=by rw[<- gp];exact hl);simp[execOp,Instr.storeAt,hp,Instr.sureAddr,storeVar,run_sizeOf hS,lW,nY]});(have amX:∀{Q:List C} {vs:List Value},fi γ w Q vs->Q.all C.cell=I->∀q∈vs,one q=I:=by{intro Q;induction Q with|nil=>{intro vs h _;simp only[fi]at h;simp[h]}|cons c Q ih=>intro vs h hc;simp only[fi]at h;obtain⟨v,fu,rfl,h2,h3⟩:=h;simp only[cK,aw]at hc;intro q hu;rcases aU.1 hu with rfl|hu;{cases c with|d x=>{simp only[CR]at h2;obtain⟨F,h4,_⟩:=h2;exact h4.vR}|nil k fl=>{simp only[CR]at h2;rw[h2.1];rfl}|ref r=>{simp only[CR]at h2;obtain⟨_,A,n,c,rfl⟩:=h2;rfl}|_=>simp[C.cell]at hc};exact ih h3 hc.2 q hu});simp only[ml]at L;split at L;{rename_i S o B;rw[B]at xV;simp only[CR]at xV;split at L;{rename_i Q hl;split at L;{rename_i hc;obtain⟨c1,c2,c3⟩:=hc;simp only[ao]at L;subst L;obtain⟨R,vs,h1,h2,h3⟩:=hi.bx S Q hl;obtain⟨Tf,_,_⟩:=hpv.cells c1;have hlen:=Tf.length;refine Rc (fin _ _ _ _ xV h1 (by rw[hlen];exact c2) (by rw[h2.length];exact c3) (amX Tf c1)) ?_;have V:=Yi.jD w (γ.β S) (eE vs o ((fr f N).eval v).cells.toList).toArray R;have va:Bc γ (λo=>∃i∈[S],o=.box i\/o=.row i) w _:=od hi V ⟨S,by simp,.inl h3⟩ (λj U=>by rw[hi.nQ _ _ h3]at U;omega);have afJ:Inv γ h0 io w0 {s with bx:=sy s.bx S } f w:=hi.sub (λ_ _ h=>h) (λd c h=>by simp only[fO]at h;split at h;{cases h};exact h) (λ_ _ h=>h);have h5:=afJ.Yl (od afJ V (M:=λo=>o=.box S) h3 (λj U=>by rw[hi.nQ _ _ h3]at U;omega)) (by simp) (λb B=>by cases B;simp[fO]) (λr hr=>by cases hr);have alh:∀{Q:List C} {us:List Value},fi γ w Q us->fi γ (jD w (γ.β S) (.cells (eE vs o ((fr f N).eval v).cells.toList).toArray R (0,0))) Q us:=λh=>h.mono (γ':=γ) (λ_=>aI _) va.cell rfl rfl _;have h6:=h5.gA (b:=S) (h1.mN R _) h3 (alh (h2.spl o Tf));have e:({s with bx:=sy s.bx S }:St).gA S (nS Q o (gG s b).cells)=s.gA S (nS Q o (gG s b).cells):=by{(have:sy (sy s.bx S) S=sy s.bx S:=by simp[sy,nO]);simp[St.gA,this]};rw[e]at h6;refine h γ f _ h6 ⟨?_,λ_ _=>rfl,λ_=>aI _,.skip⟩;simp only[gm,B];exact va};cases L};cases L}
 .rename_i r k i o B;rw[B]at xV;simp only[CR]at xV;obtain⟨g,p,m,cc,nj,hp⟩:=xV;split at L
  .rename_i ds dp s1 hem;obtain⟨CX,vj⟩:=vC hem;obtain⟨Tf,_,_⟩:=hpv.cells CX;obtain⟨oZ,G1,i1,r1,e1⟩:=zX _ hi Tf hem;split at L
   .rename_i row hl;split at L
    .rename_i e BI;split at L
     .rename_i hc;obtain⟨rfl,Tg,vb,Oa,hon,xF,hdd⟩:=hc;simp only[ao]at L;subst L;rw[ek]at BI;obtain⟨n9,A,n',c',i2,b2,AO,rf,o2,l2,q1,q2,q3,q4,q5,q6,q7,q8⟩:=i1.AD hl;rw[e1.sl,nj]at q1;simp only[Value.slice.injEq]at q1;obtain⟨rfl,rfl,rfl⟩:=q1;rcases q8 with ⟨q8,_⟩|⟨g',p',W,G,a1,a2,a3,a4,a5,a6,a7,a8,a9,xA,a11,a12⟩;{cases q8}
      .simp only[ao,Addr.mk.injEq,and_true]at a1;obtain⟨rfl,rfl⟩:=a1;obtain⟨rfl,R,vs,hB,MN⟩:=xA vb;have DZ:oZ.h g=0:=a9 Tg;have agX:=(br.1 BI).1;have HO:=q6 e (fT BI);have hul:=Tf.length;(have hus:((fr f N).eval v).cells.toList.length=n:=by rw[hul,<- vj];exact Oa);(have hik:i * row.k+row.k<=row.es.length * row.k:=by rw[<- ov];exact eK _ agX);have hck:row.es.length * row.k<=cc * row.k:=eK _ (by omega);refine Rc (fin _ _ _ _ hp hB hus (by omega) (amX Tf CX)) ?_;have V:=Yi.jD w g (eE vs (0+i * row.k+o) ((fr f N).eval v).cells.toList).toArray R;(have aao:γ.ω g=.row r:=by{rcases e1.own g with h|h|h;{rw[<- h];exact a3};{rw[a3]at h;cases h};rw[a3]at h;cases h});(have ap1:γ.h g=0:=by have:=e1.h g;omega);have va:Bc γ (λo=>∃i∈r::rowsOf (gG s b).cells,o=.box i\/o=.row i) w _:=od hi V ⟨r,by simp,.inr aao⟩ (λj U=>by rw[ap1]at U;omega);have h5:=i2.Yl (od i2 V (M:=λo=>o=.fK) a4 (λj U=>by rw[rf,DZ]at U;omega)) (by simp) (λb B=>by cases B) (λr hr=>by cases hr);(have e0:row.es=row.es.take i++(e::row.es.drop (i+1)):=by{rw[<- (br.1 BI).2,List.getElem_cons_drop,ck]});have a6':=a6;rw[e0]at a6';obtain⟨x1,x2,Ga,Gb,ex,eG,ra,rb⟩:=g_.j5 _ a6';simp only[g_]at rb;obtain⟨xe,x3,Ge,Gc,ex2,eG2,re,rc⟩:=rb;subst ex2 eG2;(have K0:x1.length=i * row.k:=by{rw[g_.length _ ra (λx hx=>q6 x (ee hx)),bo,qC (by omega)]});(have hle:xe.length=row.k:=by rw[fR.length _ re];exact HO);(have e2:e=e.take o++((e.drop o).take n++e.drop (o+n)):=by{rw[<- zo,ck,ck]});have re':=re;rw[e2]at re';obtain⟨xa,xr,Gp,Gr,ex3,eG3,rp,rr⟩:=fR.j5 _ re';obtain⟨xm,xc,Gm,Gs,ex4,eG4,rm,rs⟩:=fR.j5 _ rr;subst ex3 eG3 ex4 eG4;(have hla:xa.length=o:=by rw[fR.length _ rp,bo,HO,qC (by omega)]);(have hlm:xm.length=n:=by rw[fR.length _ rm,bo,jK,HO,qC (by omega)]);(have fN:fR w (nS e o ds) (xa++((fr f N).eval v).cells.toList++xc) (Gp++G1++Gs):=by{unfold nS;rw[Oa];exact fR.append _ (fR.append _ rp r1) rs});(have VE:W.length<=vs.length:=by rw[g_.length _ a6 q6,MN];exact hck);(have adm:vs=W++vs.drop W.length:=by{have:vs.take W.length=W:=by{apply gq;intro j;rw[fq];by_cases U:j<W.length;{rw[if_pos U];have Y:=a7 j W[j] (by simp[U]);rw[bF,hB.cell]at Y;rw[Y];simp[U]};rw[if_neg U,xP (by omega)]};rw[<- ck W.length vs,this];simp});(have ag7:eE vs (0+i * row.k+o) ((fr f N).eval v).cells.toList=(x1++((xa++((fr f N).eval v).cells.toList++xc)++x3))++vs.drop W.length:=by{have e5:vs=(x1++xa)++(xm++(xc++x3++vs.drop W.length)):=by{rw[ex]at adm;rw[ex];simpa using adm};have Y:=Rw (x1++xa) xm (xc++x3++vs.drop W.length) ((fr f N).eval v).cells.toList (by omega);rw[<- e5]at Y;rw[show 0+i * row.k+o=(x1++xa).length from by simp[K0,hla],Y];simp});(have agY:jZ (jD w g (.cells (eE vs (0+i * row.k+o) ((fr f N).eval v).cells.toList).toArray R (0,0))) g 0 (x1++((xa++((fr f N).eval v).cells.toList++xc)++x3)):=by{have Y:=(hB.mN R (eE vs (0+i * row.k+o) ((fr f N).eval v).cells.toList)).W0;intro j q hu;refine Y j q ?_;rw[ag7,eH (br.1 hu).1];exact hu});(have hold:∀t∈Ga++((Gp++Gs)++Gc),t∈G:=by{intro t B;rw[eG];simp only[aZ]at B ⊢;grind});(have BL:∀t∈Ga++((Gp++G1++Gs)++Gc),t∈G\/t∈G1:=by{intro t B;simp only[aZ]at B;by_cases X:t∈G1;{exact .inr X};refine .inl (hold t ?_);simp only[aZ];grind});(have QQ:∀t∈Ga++((Gp++G1++Gs)++Gc),t.2<=n9.h t.1\/(HM n9 (jD w g (.cells (eE vs (0+i * row.k+o) ((fr f N).eval v).cells.toList).toArray R (0,0))) t.1/\t.1≠g):=by{intro t B;rcases BL t B with X|X;{rcases a11 t X with H|⟨H,wW⟩;{exact .inl (by rw[rf];exact H)};exact .inr ⟨⟨H.1,H.2.1,by rw[iD];exact H.2.2.1,λj=>by rw[World.frozen?_of_block (w:=w) (V.block _ wW)];exact H.2.2.2 j⟩,wW⟩};rcases e1.some_ t X with H|H;{exact .inl (by rw[rf];exact H)};(have wW:t.1≠g:=λe=>by have:=H.1;rw[e,a3]at this;cases this);exact .inr ⟨⟨by rw[o2 _ (by rw[H.1];simp)];exact H.1,by rw[rf];exact H.2.1,by rw[iD];exact H.2.2.1,λj=>by rw[World.frozen?_of_block (w:=w) (V.block _ wW)];exact H.2.2.2 j⟩,wW⟩});have Dp:g_ (jD w g (.cells (eE vs (0+i * row.k+o) ((fr f N).eval v).cells.toList).toArray R (0,0))) (row.es.set i (nS e o ds)) (x1++((xa++((fr f N).eval v).cells.toList++xc)++x3)) (Ga++((Gp++G1++Gs)++Gc)):=by{have Y:g_ w (row.es.set i (nS e o ds)) (x1++((xa++((fr f N).eval v).cells.toList++xc)++x3)) (Ga++((Gp++G1++Gs)++Gc)):=by{rw[List.set_eq_take_append_cons_drop,if_pos agX];refine g_.append _ ra ?_;simp only[g_];exact⟨_,_,_,_,rfl,rfl,fN,rc⟩};refine Y.ez _ λt B j U=>?_;by_cases X:t.1=g;{rcases QQ t B with H|H;{rw[X,rf,DZ]at H;omega};exact absurd X H.2};exact World.cell?_of_block (w:=w) (V.block _ X)}
       obtain⟨PU,h6,Y,X,H,_,_⟩:=h5.wM (r:=r) (x:={row with es:=row.es.set i (nS e o ds) }) (n:=m) (c:=cc) (g:=g) (o:=0) (by simp[q2]) q3 q4 q5
        (λy hy=>by
         rcases List.mem_or_eq_of_mem_set hy with h|h
         .exact q6 y h
         .rw[h];unfold nS;simp[HO];omega)
        (λhf y hy=>by
         rcases List.mem_or_eq_of_mem_set hy with h|h
         .exact q7 hf y h
         .rw[h];intro l hz;unfold nS at hz;simp only[aZ]at hz;rcases hz with (hz|hz)|hz
          .exact q7 hf e (fT BI) l (ee hz)
          .have:=xF hf;simp only[db,bG]at this;exact this l hz
          .exact q7 hf e (fT BI) l (List.mem_of_mem_drop hz))
        (by rw[iD];exact a2) (.inl a4) (by have:=(i2.own g (by rw[a4];simp)).2;exact this) ⟨by rw[iD];omega,V.fz⟩ Dp agY (by rw[rf,DZ];omega) (λ_=>by rw[rf,DZ]) (λ_=>⟨rfl,R,_,hB.mN R _,by rw[zh (by omega)];exact MN⟩)
        QQ
        (λhd=>by
         have XY:dp=I:=by
          have hd':row.deep=I:=hd
          simpa [hd'] using hdd
         obtain⟨n1,l1⟩:=e1.deep XY;obtain⟨n2,l2'⟩:=a12 hd;refine⟨?_,λt B=>?_⟩
         .have afI:∀y∈G.map fU,y∉G1.map fU:=by
           intro y hy hy1;obtain⟨t,B,rfl⟩:=dx.1 hy;obtain⟨be1,BF,e8⟩:=dx.1 hy1;have u1:=(l2' t B).2;have u2:=(l1 be1 BF).1.1;rw[e8,u1]at u2;cases u2
          have hg1:g∉G1.map fU:=by
           intro hy1;obtain⟨be1,BF,e8⟩:=dx.1 hy1;have u2:=(l1 be1 BF).1.1;rw[e8,a3]at u2;cases u2
          rw[eG]at n2 afI;exact Q_ n2 n1 afI hg1
         .rcases QQ t B with wW|wW
          .rcases BL t B with Ad|Ad
           .have:=(l2' t Ad).1;rcases a11 t Ad with yq|yq
            .refine⟨this.1,this.2.1,?_⟩;have iG:t.1≠g:=λe9=>by
              have:=(cU.1 n2).1;exact this (by rw[<- e9];exact dM Ad)
             exact⟨by rw[iD];exact this.2.2.1,λj=>by rw[World.frozen?_of_block (w:=w) (V.block _ iG)];exact this.2.2.2 j⟩
            .exact⟨this.1,this.2.1,by rw[iD];exact this.2.2.1,λj=>by rw[World.frozen?_of_block (w:=w) (V.block _ yq.2)];exact this.2.2.2 j⟩
           .have yq:=(l1 t Ad).1;have iG:t.1≠g:=λe=>by have:=yq.1;rw[e,a3]at this;cases this
            exact⟨by rw[o2 _ (by rw[yq.1];simp)];exact yq.1,by rw[rf];exact yq.2.1,by rw[iD];exact yq.2.2.1,λj=>by rw[World.frozen?_of_block (w:=w) (V.block _ iG)];exact yq.2.2.2 j⟩
          .exact wW.1)
        (by rw[AO,e1.sl];exact nj)
       (have e6:(s1.dP r).setRow r {row with es:=row.es.set i (nS e o ds) }=s1.setRow r {row with es:=row.es.set i (nS e o ds) }:=by{(have:sy (sy s1.rw r) r=sy s1.rw r:=by simp[sy,nO]);simp[St.setRow,St.dP,this]});rw[e6]at h6;refine h PU f _ h6 ⟨?_,λ_ _=>by rw[X,b2,e1.β],λy=>by have:=H y;rw[rf]at this;exact aV (e1.h y) this,.skip⟩;simp only[gm,B];exact va
     cases L
    cases L
   cases L
  cases L
 cases L
end
end
section
open Go.RowKit
section
variable {P:Program} {γ:Gh} {h0:Nat->Nat} {io:M Nat} {w0:World} {s s':St} {f:Fm} {w:World} {N:Nat} {ty:TypeId} {pos:String} {aft:Array Edge} {gd:u (Nat×Bool)} {K:Fm->World->Prop}
 {cf:Nat->M A->u (M A×M A)} {mf:Nat->Bool->M D->Int->u (M D×Int)}
theorem P_(R:Inv γ h0 io w0 s f w){c:C}{a:Value}(r:CR γ w c a){k:Nat}{fl:Bool}{es:M (M D)}{dp:Bool}{X:St}(i:oQ s k fl c=Z (es,dp,X)) :
  ∃p G l,Inv p h0 io w0 X f w/\g_ w es l G/\Emb γ w dp G p/\(∀e∈es,e.length=k)/\(fl=I->flat es)/\((es.length=0/\∃A c,a=.slice A 0 c)\/∃b o c,a=.slice (Z ⟨b,o,O⟩) es.length c/\jZ w b o l):=by cases c with|d x=>{cases x with|list k' wU mj=>{simp only[oQ]at i;split at i;{rename_i V;obtain⟨rfl,rfl⟩:=V;simp only[ao,aP]at i;obtain⟨rfl,rfl,rfl⟩:=i;simp only[CR,Rp]at r;obtain⟨F,⟨A,n,c,H,U,q3,q4,y,q6,Q,m⟩,jv⟩:=r;rcases m with ⟨m,rfl⟩|⟨h1,b,o,S,G,rfl,rfl,a2,a3⟩;{have:mj=[]:=cD (by omega);subst this;exact⟨γ,[],[],R,by simp[g_],⟨rfl,rfl,λ_=>aI _,λ_ h=>by simp at h,λ_=>by simp,λ_ h=>⟨h,rfl⟩,λ_=>.inl rfl⟩,Q,y,.inl ⟨rfl,A,c,by rw[H,m]⟩⟩};refine⟨γ,G,S,R,a2,⟨rfl,rfl,λ_=>aI _,λv t=>.inl (jv v (by simp[t])),λj=>?_,λ_ h=>⟨h,rfl⟩,λ_=>.inl rfl⟩,Q,y,.inr ⟨b,o,c,by rw[H,U],a3⟩⟩;have:G=[]:=a2.plain (y j);subst this;simp};cases i}|_=>simp[oQ]at i}|nil k' wU=>{simp only[oQ,ao,aP]at i;obtain⟨rfl,rfl,rfl⟩:=i;simp only[CR]at r;exact⟨γ,[],[],R,by simp[g_],⟨rfl,rfl,λ_=>aI _,λ_ h=>by simp at h,λ_=>by simp,λ_ h=>⟨h,rfl⟩,λ_=>.inl rfl⟩,λ_ h=>by simp at h,λ_=>kR,.inl ⟨rfl,O,0,r.1⟩⟩}|ref q=>{simp only[oQ]at i;split at i;{rename_i x hx;split at i;{rename_i V;obtain⟨rfl,rfl⟩:=V;simp only[ao,aP]at i;obtain⟨rfl,rfl,rfl⟩:=i;obtain⟨p,G1,i1,b1,B,m1,Y,T,d1,o1,k1,W⟩:=R.take hx;simp only[CR]at r;simp only[Rp]at Y;obtain⟨A,n,c,H,U,q3,q4,y,q6,Q,m⟩:=Y;have L:∀g,γ.ω g=.fK->p.ω g=.fK/\p.h g=γ.h g:=λg hg=>by{have:=k1 g (by rw[hg];simp);exact⟨this.1.trans hg,this.2⟩};rcases m with ⟨m,rfl⟩|⟨h1,b,o,S,G,rfl,rfl,a2,a3⟩;{have:x.es=[]:=cD (by omega);rw[this];exact⟨p,[],[],i1,by simp[g_],⟨b1,B,m1,λ_ h=>by simp at h,λ_=>by simp,L,W⟩,λ_ h=>by simp at h,λ_=>kR,.inl ⟨rfl,A,c,by rw[r.1,H,m]⟩⟩};refine⟨p,G,S,i1,a2,⟨b1,B,m1,λv t=>?_,λj=>?_,L,W⟩,Q,y,.inr ⟨b,o,c,by rw[r.1,H,U],a3⟩⟩;{cases hd:(x.deep && !x.fz) with|true=>{exact .inr ((d1 hd).2 v (by simp[t]))}|false=>exact .inl (T hd v (by simp[t]))};rw[dE]at j;rcases j with j|j;{obtain⟨n1,l1⟩:=d1 j;refine⟨(cU.1 n1).2,λv t=>⟨l1 v (by simp[t]),?_⟩⟩;rcases o1 v (by simp[t]) with h|h;{rw[h];simp};simp[h]at j};have:G=[]:=a2.plain (y j);subst this;simp};cases i};cases i}|_=>simp[oQ]at i
theorem Jv{a:Type}(l:M (Nat×a))(r:Nat):sy (sy l r) r=sy l r:=by simp[sy,nO]
theorem oz(s:St)(r:Nat)(x:Row):(s.dP r).newRow r x=s.newRow r x:=by simp[St.newRow,St.setRow,St.dP,St.kill,Jv]
theorem acW(hi:Inv γ h0 io w0 s f w){oZ:Gh}{s1:St}{op:Op}{r d by_:Nat}{row:Row}{x:Operand}{E:TypeId}{es:List (List D)}{X:Bool}{news:List Value}{G2:Fp}{tl:List Nat}
  (i1:Inv oZ h0 io w0 s1 f w) (r2:g_ w es news G2) (B:Emb γ w X G2 oZ) (hk2:∀e∈es,e.length=row.k) (hf2:row.fl=I->flat es) (xV:CR γ w (.ref r) ((fr f N).eval x)) (hl:look s1.rw r=Z row) (vb:row.app=I)
  (c3:(row.es.length+es.length) * by_<=room) (c4:row.es.length+es.length<=maxLen) (hrX:r∈tl)
  (hR:∀{n:Nat} {xs:List Value},xs.length=n * row.k->(((fr f N).eval x=.slice O 0 0/\n=0)\/∃g v T p,(fr f N).eval x=.slice (Z ⟨g,0,O⟩) n v/\nt w g T p/\n<=v/\v<=maxLen/\p.length=v * row.k/\p.take (n * row.k)=xs)->
   n+es.length<=maxLen->(n+es.length) * by_<=room->∃v' C,(execOp (fr f N).eval ⟨Z d,op,ty,pos,aft,gd⟩).run P w=.ok (.value v') C/\P0 w E row.k n es.length xs news ((fr f N).eval x) v' C)
  (h:∀t f' C,Inv t h0 io w0 ((s1.newRow r {row with es:=row.es++es,deep:=row.deep && X }).put (Z d) (.ref r)) f' C->Tr (Z d) tl γ w t C f f'->K f' C):xz P N ⟨Z d,op,ty,pos,aft,gd⟩ f w K:=by
 simp only[CR]at xV;have Oh:news.length=es.length * row.k:=g_.length es r2 hk2;obtain⟨n9,A,n,c,i2,b2,AO,F,o2,l2,q1,q2,q3,q4,q5,q6,q7,q8⟩:=i1.AD hl;rw[B.sl]at q1;have ri:(fr f N).eval x=.slice A n c:=xV.1.trans q1;(have KU:∀e∈row.es++es,e.length=row.k:=λe U=>by{rcases aZ.1 U with U|U;{exact q6 e U};exact hk2 e U});(have L:row.fl=I->flat (row.es++es):=λhf e U=>by{rcases aZ.1 U with U|U;{exact q7 hf e U};exact hf2 hf e U});have adO:∀g,HM oZ w g->HM n9 w g:=λg hg=>⟨by rw[o2 _ (by rw[hg.1];simp)];exact hg.1,by rw[F];exact hg.2.1,hg.2.2⟩;rcases q8 with ⟨rfl,rfl⟩|⟨g,o,xs,G,rfl,a2,a3,a4,a5,a6,a7,a8,a9,xA,a11,a12⟩
 ·(have K2:n=0:=by omega);subst K2;have hre:row.es=[]:=cD q2.symm;obtain⟨v',C,hr,tW⟩:=hR (n:=0) (xs:=[]) (by simp) (.inl ⟨ri,rfl⟩) (by omega) (by rw[hre]at c3;simpa using c3);refine Cq hr ?_;rcases tW with ⟨W,rfl,rfl⟩|⟨g,v,T',p,W,_⟩|⟨v,cs,rfl,h2,h3,h4,Q,h6,h7,h8⟩;{have HP:es=[]:=cD W;subst HP;have hR:sF n9.h C {row with es:=row.es++[],deep:=row.deep && X } ((fr f N).eval x) []:=⟨O,0,0,ri,by simp[hre],aI _,by simp[maxLen],q5,KU,L,.inl ⟨rfl,rfl,rfl⟩⟩;obtain⟨t,H,j2,j3,Y,_⟩:=i2.yg (r:=r) hR (by simp) (λ_ h=>by simp at h);rw[oz]at H;exact h t _ C (H.put d (.ref r) _ (by simp only[CR,j2];exact⟨trivial,O,0,0,ri⟩)) ⟨Bc.refl _ _ _,λx _=>by rw[j3,b2,B.β],λg=>by rw[Y,F];exact B.h g,.put⟩};{rw[ri]at W;cases W}
  .simp only[bF,av]at h2 h8 ⊢;have i3:=i2.Ka Q;have jm:jZ C w.heap.size 0 news:=by{intro j a R;rw[bF,h6.cell];rw[<- h8,fq]at R;split at R;{exact R};cases R}
   have gf:=g_.lt es r2;obtain⟨t,H,j2,j3,Y,_⟩:=i3.zO (r:=r) (x:={row with es:=row.es++es,deep:=row.deep && X }) (n:=es.length) (c:=v) (g:=w.heap.size) (o:=0) (by simp[hre]) h2 h3 q5 KU L (by omega) (.inr (i2.uI (aI _))) (.inl hi.size) ⟨by omega,Q.RT _ (aI _)⟩ (by simp only[hre,av];exact r2.Ka Q) jm (by rw[i2.fN _ (aI _)];omega) (λ_=>i2.fN _ (aI _)) (λ_=>⟨rfl,E,cs,h6,h7⟩)
    (λl m=>by
     rcases B.some_ l m with q|q
     .exact .inl (by rw[F];exact q)
     .have:=adO _ q;exact .inr ⟨⟨this.1,this.2.1,(lT hi Q (λ_=>False)).jq _ this.2.2⟩,by have:=gf l m;omega⟩)
    (λhd=>by
     have XY:X=I:=by
      have hd':(row.deep && X)=I:=hd;simp at hd';exact hd'.2
     obtain⟨n1,l1⟩:=B.deep XY;refine⟨cU.2 ⟨λhm=>?_,n1⟩,λl m=>?_⟩
     .obtain⟨l,m,e⟩:=dx.1 hm;have:=gf l m;omega
     .have:=adO _ (l1 l m).1;exact⟨this.1,this.2.1,(lT hi Q (λ_=>False)).jq _ this.2.2⟩)
   rw[oz]at H;exact h t _ C (H.put d (.ref r) _ (by simp only[CR,j2];exact⟨trivial,_,_,_,rfl⟩)) ⟨lT hi Q _,λx _=>by rw[j3,b2,B.β],λg=>by have:=Y g;rw[F]at this;exact aV (B.h g) this,.put⟩
 .obtain⟨rfl,T',vs,hB,MN⟩:=xA vb;(have VE:xs.length=n * row.k:=by rw[g_.length _ a6 q6,q2]);(have X2:vs.take (n * row.k)=xs:=by{rw[<- VE];apply gq;intro j;rw[fq];by_cases V:j<xs.length;{rw[if_pos V];have h7:=a7 j xs[j] (by simp[V]);rw[bF,hB.cell]at h7;rw[h7];simp[V]};rw[if_neg V,xP (by omega)]});have Vy:=g_.lt _ a6;have adl:=g_.lt _ r2;obtain⟨v',C,hr,tW⟩:=hR VE (.inr ⟨g,c,T',vs,ri,hB,q3,q4,MN,X2⟩) (by omega) (by rw[q2];exact c3);(have aao:γ.ω g=.row r:=by{rcases B.own g with h|h|h;{rw[<- h];exact a3};{rw[a3]at h;cases h};rw[a3]at h;cases h});have S:g_ w (row.es++es) (xs++news) (G++G2):=g_.append _ a6 r2;(have O8:∀l∈G++G2,l.2<=n9.h l.1\/(HM n9 w l.1/\l.1≠g):=by{intro l m;rcases aZ.1 m with m|m;{rw[F];exact a11 l m};rcases B.some_ l m with q|q;{exact .inl (by rw[F];exact q)};exact .inr ⟨adO _ q,λe=>by have:=q.1;rw[e,a3]at this;cases this⟩});(have IW:(row.deep && X)=I->(g::(G++G2).map fU).Nodup/\∀l∈G++G2,HM n9 w l.1:=by{intro hd;rw[aw]at hd;obtain⟨n1,l1⟩:=B.deep hd.2;obtain⟨n2,l2'⟩:=a12 hd.1;refine⟨?_,λl m=>?_⟩;{rw[cC,<- ax,cI];refine⟨n2,n1,?_⟩;intro y hy y' Tj e;subst e;obtain⟨be1,BF,e8⟩:=dx.1 Tj;have u2:=(l1 be1 BF).1.1;rcases aU.1 hy with rfl|hy;{rw[e8,a3]at u2;cases u2};obtain⟨l,m,rfl⟩:=dx.1 hy;rw[e8,(l2' l m).2]at u2;cases u2};rcases aZ.1 m with m|m;{exact (l2' l m).1};exact adO _ (l1 l m).1});refine Cq hr ?_;rcases tW with ⟨W,rfl,rfl⟩|⟨g',v,MX,p,W,h2,h3,h4,Q,h6,h7,rfl⟩|⟨v,cs,rfl,h2,h3,h4,Q,h6,h7,h8⟩;{have HP:es=[]:=cD W;subst HP;simp only[g_]at r2;obtain⟨rfl,rfl⟩:=r2;simp only[aH]at S O8 IW KU L;obtain⟨t,H,j2,j3,Y,_⟩:=i2.zO (r:=r) (x:={row with es:=row.es++[],deep:=row.deep && X }) (n:=n) (c:=c) (g:=g) (o:=0) (by simp[q2]) q3 q4 q5 (by simpa using KU) (by simpa using L) a2 (.inl a4) (i2.own g (by rw[a4];simp)).2 a5 (by simpa using S) a7 (by rw[F];exact a8) (λhf=>by rw[F];exact a9 hf) (λ_=>⟨rfl,T',vs,hB,MN⟩) O8 IW;rw[oz]at H;exact h t _ C (H.put d (.ref r) _ (by simp only[CR,j2,ri];exact⟨trivial,_,_,_,rfl⟩)) ⟨Bc.refl _ _ _,λx _=>by rw[j3,b2,B.β],λg=>by have:=Y g;rw[F]at this;exact aV (B.h g) this,.put⟩}
  .rw[ri]at W;simp only[Value.slice.injEq,ao,Addr.mk.injEq,and_true]at W;obtain⟨rfl,_,rfl⟩:=W;subst h3;(have Tf:p=vs:=by{unfold nt at h2 hB;rw[hB]at h2;simp only[ao,Obj.cells.injEq,and_true]at h2;have:=h2.1;simpa using this.symm});subst Tf;have nC:=Yi.jD w g (eE p (n * row.k) news).toArray MX;(have BJ:n * row.k+news.length<=p.length:=by rw[Oh,MN,<- mq];exact eK _ h4);(have QK:∀j,j<n * row.k->(jD w g (.cells (eE p (n * row.k) news).toArray MX (0,0))).cell? ⟨g,j,O⟩=w.cell? ⟨g,j,O⟩:=by{intro j V;rw[(hB.mN MX (eE p (n * row.k) news)).cell,hB.cell];unfold eE;rw[bh,eH (by simp;omega),fq,if_pos V]});have i3:=i2.Yl (od i2 nC (M:=λo=>o=.fK) a4 (λj V=>QK j (by rw[F]at V;omega))) (by simp) (λb m=>by cases m) (λr hr=>by cases hr);have va:Bc γ (λo=>∃i∈tl,o=.box i\/o=.row i) w _:=od hi nC ⟨r,hrX,.inr aao⟩ (λj V=>QK j (by have:=B.h g;omega));(have apU:g_ (jD w g (.cells (eE p (n * row.k) news).toArray MX (0,0))) (row.es++es) (xs++news) (G++G2):=by{refine S.ez _ λl m j V=>?_;by_cases h8:l.1=g;{rw[h8];rcases O8 l m with q|q;{rw[h8,F]at q;exact QK j (by omega)};exact absurd h8 q.2};exact World.cell?_of_block (w:=w) (nC.block _ h8)});have jm:jZ (jD w g (.cells (eE p (n * row.k) news).toArray MX (0,0))) g 0 (xs++news):=by{have q:=(hB.mN MX (eE p (n * row.k) news)).W0;intro j a R;refine q j a ?_;(have e5:eE p (n * row.k) news=(xs++news)++p.drop (n * row.k+news.length):=by unfold eE;rw[X2]);rw[e5,eH (br.1 R).1];exact R}
   have Pp:∀y,vq w y->vq (jD w g (.cells (eE p (n * row.k) news).toArray MX (0,0))) y:=va.jq;obtain⟨t,H,j2,j3,Y,_⟩:=i3.zO (r:=r) (x:={row with es:=row.es++es,deep:=row.deep && X }) (n:=n+es.length) (c:=c) (g:=g) (o:=0) (by simp[q2]) h4 q4 q5 KU L (by rw[iD];exact a2) (.inl a4) (i2.own g (by rw[a4];simp)).2 ⟨by rw[iD];omega,nC.fz⟩ apU jm (by rw[F];exact aV a8 (Nat.add_le_add_left (eK row.k (show n<=n+es.length by omega)) 0)) (λhf=>by rw[F];exact a9 hf) (λ_=>⟨rfl,MX,_,hB.mN MX _,by rw[zh BJ];exact MN⟩)
    (λl m=>by
     rcases O8 l m with q|q
     .exact .inl q
     .exact .inr ⟨⟨q.1.1,q.1.2.1,Pp _ q.1.2.2⟩,q.2⟩)
    (λhd=>⟨(IW hd).1,λl m=>by have:=(IW hd).2 l m;exact⟨this.1,this.2.1,Pp _ this.2.2⟩⟩)
   rw[oz]at H;exact h t _ _ (H.put d (.ref r) _ (by simp only[CR,j2];exact⟨trivial,_,_,_,rfl⟩)) ⟨va,λx _=>by rw[j3,b2,B.β],λg=>by have:=Y g;rw[F]at this;exact aV (B.h g) this,.put⟩
  .have i3:=i2.Ka Q;have jm:jZ C w.heap.size 0 (xs++news):=by{intro j a R;rw[bF,h6.cell];rw[<- h8,fq]at R;split at R;{exact R};cases R}
   have gf:∀l∈G++G2,l.1<w.heap.size:=g_.lt _ S;have Pp:=(lT hi Q (λ_=>False)).jq;obtain⟨t,H,j2,j3,Y,_⟩:=i3.zO (r:=r) (x:={row with es:=row.es++es,deep:=row.deep && X }) (n:=n+es.length) (c:=v) (g:=w.heap.size) (o:=0) (by simp[q2]) h2 h3 q5 KU L (by omega) (.inr (i2.uI (aI _))) (.inl hi.size) ⟨by omega,Q.RT _ (aI _)⟩ (S.Ka Q) jm (by rw[i2.fN _ (aI _)];omega) (λ_=>i2.fN _ (aI _)) (λ_=>⟨rfl,E,cs,h6,h7⟩)
    (λl m=>by
     rcases O8 l m with q|q
     .exact .inl q
     .exact .inr ⟨⟨q.1.1,q.1.2.1,Pp _ q.1.2.2⟩,by have:=gf l m;omega⟩)
    (λhd=>by
     refine⟨cU.2 ⟨λhm=>?_,(cU.1 (IW hd).1).2⟩,λl m=>by have:=(IW hd).2 l m;exact⟨this.1,this.2.1,Pp _ this.2.2⟩⟩;obtain⟨l,m,e⟩:=dx.1 hm;have:=gf l m;omega)
   rw[oz]at H;exact h t _ C (H.put d (.ref r) _ (by simp only[CR,j2];exact⟨trivial,_,_,_,rfl⟩)) ⟨lT hi Q _,λx _=>by rw[j3,b2,B.β],λg=>by have:=Y g;rw[F]at this;exact aV (B.h g) this,.put⟩
theorem amx(Q:Inv γ h0 io w0 s f w){T E:TypeId}{k by_:Nat}{fl:Bool}{x y:Operand}{a b:KX}{d:Nat}{i:TypeInfo}{e:Value}(hU:P.underlying T=Z (.slice E))(hI:P.info? E=Z i)(hz:i.zero=Z e)(lW:i.size=k)(S:i.bytes=by_)(H:e.cells.size=k)(V:0<k)
  (hx:lS N x a=I) (hy:lS N y b=I) (j:ml cf mf s (Z d) (.app k by_ fl a b)=Z s') (h:∀l f' o,Inv l h0 io w0 s' f' o->Tr (Z d) (gm s (Z d) (.app k by_ fl a b)) γ w l o f f'->K f' o) :
  xz P N ⟨Z d,.call {callee:=.builtin .append,args:=#[x,y],argTypes:=#[T,T] },ty,pos,aft,gd⟩ f w K:=by have p:=cZ Q hx;have hpy:=cZ Q hy;simp only[ml]at j;split at j;{cases j};rename_i es dp s1 aam;obtain⟨oZ,G2,G,i1,W,F,t,R,hu⟩:=P_ Q hpy aam;have Oh:G.length=es.length * k:=g_.length es W t;have Ag:=W.vR;have nR:∀{B o},(Builtin.append_ #[T,T] ty #[(fr f N).eval x,(fr f N).eval y]).run P w=.ok B o->(execOp (fr f N).eval ⟨Z d,.call {callee:=.builtin .append,args:=#[x,y],argTypes:=#[T,T] },ty,pos,aft,gd⟩).run P w=.ok (.value B) o:=by{intro B o L;simp[execOp,resolve,invoke,builtin,L]};split at j;{rename_i k' wU q;rw[q]at p;simp only[CR]at p;split at j;{rename_i hc;obtain⟨rfl,rfl,c3,c4⟩:=hc;simp only[ao]at j;subst j;obtain⟨B,o,L,tW⟩:=Up (P:=P) (w:=w) (ty:=ty) (k:=k') (by_:=by_) hU hI hz lW S H V (v:=(fr f N).eval x) (n:=0) (xs:=[]) (by simp) (.inl ⟨p.1,rfl⟩) (u:=(fr f N).eval y) (m:=es.length) Oh hu Ag (by omega) (by simpa using c3);refine Cq (nR L) ?_;rcases tW with ⟨C,rfl,rfl⟩|⟨g,U,T',cur,C,_⟩|⟨U,cs,rfl,X,h3,h4,h5,h6,h7,h8⟩;{have HP:es=[]:=cD C;subst HP;have hR:sF oZ.h o ⟨[],k',wU,dp,I,J⟩ ((fr f N).eval x) []:=⟨O,0,0,p.1,rfl,aI _,by simp[maxLen],V,λ_ h=>by simp at h,λ_=>kR,.inl ⟨rfl,rfl,rfl⟩⟩;obtain⟨l,j1,j2,j3,Y,_⟩:=i1.yg (r:=d) hR (by simp) (λ_ h=>by simp at h);exact h l _ o (j1.put d (.ref d) _ (by simp only[CR,j2];exact⟨trivial,O,0,0,p.1⟩)) ⟨Bc.refl _ _ _,λx _=>by rw[j3,F.β],λg=>by rw[Y];exact F.h g,.put⟩};{rw[p.1]at C;cases C};simp only[bF,av]at X h8 ⊢;obtain⟨l,j1,j2,j3,Y⟩:=i1.newRow h5 h6 (n:=es.length) (c:=U) h4 W h8 rfl X h3 h7 V t R F d;exact h l _ o (j1.put d (.ref d) _ (by simp only[CR,j2];exact⟨trivial,_,_,_,rfl⟩)) ⟨lT Q h5 _,λx _=>by rw[j3,F.β],λg=>aV (F.h g) (Y g),.put⟩};cases j};{rename_i r q;rw[q]at p;simp only[CR]at p;split at j;{rename_i row hl;split at j;{rename_i hc;obtain⟨rfl,rfl,vb,c3,c4⟩:=hc;simp only[ao]at j;subst j;exact acW (E:=E) Q i1 W F t R (by simpa only [CR] using p) hl vb c3 c4 (by simp[gm,q,rowsOf]) (λC X h3 h4=>by obtain⟨B,o,L,ho⟩:=Up (P:=P) (w:=w) (ty:=ty) hU hI hz lW S H V C X (u:=(fr f N).eval y) (m:=es.length) Oh hu Ag h3 h4;exact⟨B,o,nR L,ho⟩) h};cases j};cases j};cases j
end
end
section
open Go.RowKit
def Dg(h:Nat->Nat)(w:World):RV->Value->M Nat->Prop
 | .d x,v,F=>F=[]/\∃G,Rp w x v G/\dY h G
 | .row r,v,F=>sF h w r v F/\F.Nodup
def iE(h:Nat->Nat)(w:World):M RV->M Value->M Nat->Prop
 |[],vs,F=>vs=[]/\F=[]
 |r::rs,vs,F=>∃v a c b,vs=v::a/\F=c++b/\Dg h w r v c/\iE h w rs a b
def AR(h:Nat->Nat)(w:World):A->Value->M Nat->Prop
 | .val a cs,v,F=>∃vs,iE h w cs vs F/\(a=I->v=.agg vs.toArray)/\(a=J->vs=[v])
 | .box cs,v,F=>∃g T vs b,v=.pointer (Z ⟨g,0,O⟩)/\nt w g T vs/\h g=0/\F=g::b/\iE h w cs vs b
def kg(h:Nat->Nat)(w:World):M A->M Value->M Nat->Prop
 |[],vs,F=>vs=[]/\F=[]
 |a::as,vs,F=>∃v b d c,vs=v::b/\F=d++c/\AR h w a v d/\kg h w as b c
structure ye (h:Nat->Nat) (F:List Nat) (w w':World) (h':Nat->Nat):Prop where
 os:w'.os=w.os
 tape:w'.tape=w.tape
 output:w'.output=w.output
 size:w.heap.size<=w'.heap.size
 block:∀g,g<w.heap.size->g∉F->w'.heap[g]?=w.heap[g]?
 cell:∀g j,g<w.heap.size->j<h g->w'.cell? ⟨g,j,none⟩=w.cell? ⟨g,j,none⟩
 mono:∀g,g<w.heap.size->h g<=h' g
 hold:∀g,g<w.heap.size->g∉F->h' g=h g
 fN:∀g,w'.heap.size<=g->h' g=0
 jq:∀g,vq w g->vq w' g
def ft:M A->M Value->M Value
 | .box _::as,v::vs=>v::ft as vs
 | .val _ _::as,_::vs=>ft as vs
 |_,_=>[]
def UK(a:M Value)(v:Value):Prop:=a=[v]\/(a.length≠1/\v=.tuple a.toArray)
def AY:String:= "internal/strconv.uint64pow10"
def UI(P:Program)(w:World)(F:M Nat):Prop:=∀g,P.globalNamed AY=Z g->g<w.heap.size/\g∉F/\Lib.TabIs P w AY .u64 Lib.pow10Tab
def UI.step{P:Program}{w e:World}{F j:M Nat}(h:UI P w F)(o:w.heap.size<=e.heap.size)(n:∀g,g<w.heap.size->g∉F->e.heap[g]?=w.heap[g]?)(m:∀g∈j,w.heap.size<=g\/g∈F):UI P e j:=by intro g f;obtain⟨a,b,c⟩:=h g f;refine⟨by omega,λl=>?_,?_⟩;{rcases m g l with i|i;{omega};exact b i};unfold Lib.TabIs World.var? at c ⊢;rw[f]at c ⊢;simp only[dR]at c ⊢;rw[n g a b];exact c
def J3(P:Program)(g:FuncId)(as i outs:M A)(w:World)(h:Nat->Nat)(vs:M Value)(F:M Nat)(V:M Value->Array Value:=List.toArray):Prop:=
 kg h w as vs F->F.Nodup->(∀g∈F,g<w.heap.size)->(∀g,w.heap.size<=g->h g=0)->
  Calls P g (V vs) w λe a=>∃v f d c b,e=.returned v/\UK f v/\kg b a i f d/\kg b a outs (ft as vs) c/\(d++c).Nodup/\(∀g∈d++c,(w.heap.size<=g\/g∈F)/\g<a.heap.size)/\ye h F w a b
def pK(P:Program)(g:FuncId)(as a outs:M A):Prop:=
 ∀(w:World) (h:Nat->Nat) (vs:M Value) (F:M Nat),UI P w F->J3 P g as a outs w h vs F
def yd(a:World)(b:M Nat)(P:Program)(g:FuncId)(as c outs:M A):Prop:=
 ∀(w:World) (h:Nat->Nat) (vs:M Value) (F:M Nat),a.heap.size<=w.heap.size->(∀g,g<a.heap.size->g∉b->w.heap[g]?=a.heap[g]?)->(∀g∈F,a.heap.size<=g\/g∈b)->J3 P g as c outs w h vs F
def pK.at_{P:Program}{g:FuncId}{as b outs:M A}{a:World}{c:M Nat}(h:pK P g as b outs)(d:UI P a c):yd a c P g as b outs:=
 λw k vs F i f e=>h w k vs F (d.step i f e)
def agq(F:FuncId):M Value->Array Value
 |v::vs=>#[v,.func (.func F) #[] vs.toArray]
 |[]=>#[]
def afg(a:World)(b:M Nat)(P:Program)(C F:FuncId)(as c outs:M A):Prop:=
 ∀(w:World) (h:Nat->Nat) (vs:M Value) (G:M Nat),a.heap.size<=w.heap.size->(∀g,g<a.heap.size->g∉b->w.heap[g]?=a.heap[g]?)->(∀g∈G,a.heap.size<=g\/g∈b)->J3 P C as c outs w h vs G (agq F)
def uO(w:World):M D->M Value->M Fp->Prop
 |[],vs,b=>vs=[]/\b=[]
 |d::e,vs,b=>∃v c F a,vs=v::c/\b=F::a/\Rp w d v F/\uO w e c a
def Yh(P:Program)(k:FuncId)(j:Bool)(f:M D)(q:Int)(d:M D)(b:Int)(w:World)(h:Nat->Nat)(v:Value)(vs:M Value)(a:M Fp):Prop:=
 uO w f vs a->(j=I->v=.agg vs.toArray)->(j=J->vs=[v])->IntKind.i64.wrap q=q->(a.flatten.map fU).Nodup->(∀G∈a,∀i∈G,h i.1=0/\vq w i.1)->(∀g,w.heap.size<=g->h g=0)->
  Calls P k #[v,.int .i64 q] w λe c=>e=.returned (.int .i64 b)/\IntKind.i64.wrap b=b/\uO c d vs a/\d.map D.plain=f.map D.plain/\ye h (a.flatten.map fU) w c h
def P7(P:Program)(f:FuncId)(e:Bool)(d:M D)(q:Int)(b:M D)(c:Int):Prop:=
 ∀(w:World) (h:Nat->Nat) (v:Value) (vs:M Value) (a:M Fp),UI P w (a.flatten.map fU)->Yh P f e d q b c w h v vs a
def Ej(a:World)(b:M Nat)(P:Program)(j:FuncId)(i:Bool)(f:M D)(q:Int)(d:M D)(e:Int):Prop:=
 ∀(w:World) (h:Nat->Nat) (v:Value) (vs:M Value) (c:M Fp),a.heap.size<=w.heap.size->(∀g,g<a.heap.size->g∉b->w.heap[g]?=a.heap[g]?)->(∀g∈c.flatten.map fU,a.heap.size<=g\/g∈b)->Yh P j i f q d e w h v vs c
def P7.at_{P:Program}{j:FuncId}{i:Bool}{g c:M D}{q e:Int}{a:World}{f:M Nat}(h:P7 P j i g q c e)(l:UI P a f):Ej a f P j i g q c e:=
 λw k v vs p o n m=>h w k v vs p (l.step o n m)
def Ru{d j i:Nat}(h:j≠i):vm d j≠vm d i:=by unfold vm;omega
section
variable {h0:Nat->Nat} {io:M Nat} {w0:World} {f:Fm} {w:World}
theorem Inv.aem{a:Gh}{s:St}(g:Inv a h0 io w0 s f w)(d:Nat)(c:C)(j:CR a w c (f d)):Inv a h0 io w0 (s.put (Z d) c) f w:=
 {g with
  sl:=λe l h=>by
   simp only[St.put,look]at h;by_cases i:d=e
   .subst i;simp at h;subst h;exact j
   .rw[if_neg i]at h;exact g.sl e l h }
theorem sF.slice{h:Nat->Nat}{x:Row}{v:Value}{F:M Nat}(a:sF h w x v F):∃A n c,v=.slice A n c:=by obtain⟨A,n,c,b,_⟩:=a;exact⟨A,n,c,b⟩
theorem nk{d:Nat}:∀(vs:M RV) {l:M Value} {F:M Nat} (j:Nat) {b:Gh} {s:St},Inv b h0 io w0 s f w->iE b.h w vs l F->F.Nodup->(∀g∈F,(b.ω g=.free\/b.ω g=.fK)/\g<w.heap.size/\(w0.heap.size<=g\/g∈io))->
  ∃a,Inv a h0 io w0 (er d j vs s).2 f w/\fi a w (er d j vs s).1 l/\a.β=b.β/\a.h=b.h/\(∀g,g∉F->a.ω g=b.ω g)/\∀q,(∀i,j<=i->q≠vm d i)->a.sl q=b.sl q
 |[],l,F,j,b,s,e,c,_,_=>by simp only[iE]at c;obtain⟨rfl,rfl⟩:=c;exact⟨b,e,by simp[er,fi],rfl,rfl,λ_ _=>rfl,λ_ _=>rfl⟩
 | .d x::vs,l,F,j,b,s,e,c,o,t=>by simp only[iE,Dg]at c;obtain⟨v,B,K,F2,rfl,rfl,⟨rfl,G,N,T⟩,c⟩:=c;obtain⟨a,A,c1,C,m,n,P⟩:=nk vs (j+1) e c (by simpa using o) (by simpa using t);refine⟨a,A,?_,C,m,by simpa using n,λq p=>P q (λi e=>p i (by omega))⟩;simp only[er,fi];exact⟨v,B,rfl,by simp only[CR];exact⟨G,N,by rw[m];exact T⟩,c1⟩
 | .row x::vs,l,F,j,b,s,e,c,o,t=>by simp only[iE,Dg]at c;obtain⟨v,B,K,F2,rfl,rfl,⟨H,Ag⟩,c⟩:=c;rw[cI]at o;obtain⟨_,Y,L⟩:=o;obtain⟨oZ,A,y,C,m,n,Q⟩:=e.yg (r:=vm d j) H Ag (λg k=>by have:=t g (by simp[k]);exact⟨by rcases this.1 with h|h<;>simp[h],this.2⟩);obtain⟨S,i2,W,X,V,R,D⟩:=nk vs (j+1) A (by rw[m];exact c) Y (λg k=>by have U:g∉K:=λh=>L g h g k rfl;rw[n g U];exact t g (by simp[k]));refine⟨S,i2,?_,X.trans C,V.trans m,λg k=>?_,λq p=>?_⟩;{simp only[er,fi];refine⟨v,B,rfl,?_,W⟩;simp only[CR];rw[D (vm d j) (λi e=>Ru (by omega)),y];exact⟨rfl,H.slice⟩};{simp only[aZ,not_or]at k;rw[R g k.2,n g k.1]};rw[D q (λi e=>p i (by omega)),Q q (p j (aI _))]
theorem tY{d:Nat}:∀(vs:M RV) {m:M Value} {F:M Nat} (j:Nat) {b:Gh} {s:St},Inv b h0 io w0 s f w->iE b.h w vs m F->F.Nodup->(∀g∈F,(b.ω g=.free\/b.ω g=.fK)/\g<w.heap.size/\(w0.heap.size<=g\/g∈io))->
  ∃a,Inv a h0 io w0 (er d j vs s).2 f w/\(∀l,l.h=a.h->(∀i,j<=i->i<j+vs.length->l.sl (vm d i)=a.sl (vm d i))->fi l w (er d j vs s).1 m)/\a.β=b.β/\a.h=b.h/\(∀g,g∉F->a.ω g=b.ω g)/\∀q,(∀i,j<=i->q≠vm d i)->a.sl q=b.sl q
 |[],m,F,j,b,s,e,c,_,_=>by simp only[iE]at c;obtain⟨rfl,rfl⟩:=c;exact⟨b,e,λ_ _ _=>by simp[er,fi],rfl,rfl,λ_ _=>rfl,λ_ _=>rfl⟩
 | .d x::vs,m,F,j,b,s,e,c,p,y=>by simp only[iE,Dg]at c;obtain⟨v,L,R,F2,rfl,rfl,⟨rfl,G,T,X⟩,c⟩:=c;obtain⟨a,D,c1,N,n,o,U⟩:=tY vs (j+1) e c (by simpa using p) (by simpa using y);refine⟨a,D,λl B A=>?_,N,n,by simpa using o,λq t=>U q (λi e=>t i (by omega))⟩;simp only[er,fi];exact⟨v,L,rfl,by simp only[CR];exact⟨G,T,by rw[B,n];exact X⟩,c1 l B (λi K H=>A i (by omega) (by simp;omega))⟩
 | .row x::vs,m,F,j,b,s,e,c,p,y=>by simp only[iE,Dg]at c;obtain⟨v,L,R,F2,rfl,rfl,⟨Q,Ag⟩,c⟩:=c;rw[cI]at p;obtain⟨_,Oe,S⟩:=p;obtain⟨oZ,D,C,N,n,o,V⟩:=e.yg (r:=vm d j) Q Ag (λg k=>by have:=y g (by simp[k]);exact⟨by rcases this.1 with h|h<;>simp[h],this.2⟩);obtain⟨l,i2,Y,b2,K,W,P⟩:=tY vs (j+1) D (by rw[n];exact c) Oe (λg k=>by have H:g∉R:=λh=>S g h g k rfl;rw[o g H];exact y g (by simp[k]));refine⟨l,i2,λPU B A=>?_,b2.trans N,K.trans n,λg k=>?_,λq t=>?_⟩;{simp only[er,fi];refine⟨v,L,rfl,?_,Y PU B (λi K H=>A i (by omega) (by simp;omega))⟩;simp only[CR];rw[A j (aI _) (by simp),P (vm d j) (λi e=>Ru (by omega)),C];exact⟨rfl,Q.slice⟩};{simp only[aZ,not_or]at k;rw[W g k.2,o g k.1]};rw[P q (λi e=>t i (by omega)),V q (t j (aI _))]
theorem iE.length{h:Nat->Nat}:∀{vs:M RV} {b:M Value} {F:M Nat},iE h w vs b F->b.length=vs.length
 |[],_,_,a=>by simp only[iE]at a;simp[a.1]
 |_::_,_,_,a=>by simp only[iE]at a;obtain⟨v,c,e,d,rfl,rfl,_,a⟩:=a;simp[iE.length a]
theorem BH{b:Gh}{a:M C}{v:Value}(h:fi b w a [v]):CR b w (a.headD .any) v:=by cases a with|nil=>{simp[fi]at h}|cons c a=>simp only[fi]at h;obtain⟨g,i,e,d,_⟩:=h;simp only[cr]at e;rw[e.1];exact d
theorem FE{p:Nat}:∀(vs:M RV) (j:Nat) (s:St),C.jS (900+p) (er (p+1400) j vs s).1=(er (p+1400) j vs s).1
 |[],j,s=>by simp[er,C.jS]
 | .d x::vs,j,s=>by simp only[er,C.jS,C.kill,FE vs (j+1) s]
 | .row x::vs,j,s=>by (have h:vm (p+1400) j≠900+p:=by unfold vm;omega);simp only[er,C.jS,C.kill,FE vs (j+1),if_neg h]
theorem vD:∀(as:M A) {vs:M Value} {F:M Nat} (p:Nat) {e:Gh} {s:St},Inv e h0 io w0 s f w->kg e.h w as vs F->F.Nodup->(∀g∈F,(e.ω g=.free\/e.ω g=.fK)/\g<w.heap.size/\(w0.heap.size<=g\/g∈io))->(∀i v,vs[i]?=Z v->f (p+i)=v)->
  ∃j,Inv j h0 io w0 (lU p as s) f w/\j.h=e.h/\(∀q,q<p->j.β (900+q)=e.β (900+q))/\∀i m g,as[i]?=Z (.box m)->vs[i]?=Z (.pointer (Z ⟨g,0,O⟩))->j.β (900+(p+i))=g
 |[],vs,F,p,e,s,x,_,_,_,_=>⟨e,x,rfl,λ_ _=>rfl,λi m g h=>by simp at h⟩
 | .val ag m::as,vs,F,p,e,s,x,k,t,o,C=>by simp only[kg,AR]at k;obtain⟨v,fu,F1,F2,rfl,rfl,⟨us,L,ha,hb⟩,k⟩:=k;rw[cI]at t;obtain⟨Y,X,H⟩:=t;obtain⟨oZ,Q,c1,V,r,K,_⟩:=nk (d:=p) m 0 x L Y (λg n=>o g (by simp[n]));(have c:f p=v:=by simpa using C 0 v rfl);have i2:Inv oZ h0 io w0 (Bu p (.val ag m) s) f w:=by{refine Q.aem p _ ?_;cases ag with|true=>{rw[c,ha rfl];simp only[if_true,CR];exact⟨us,rfl,c1⟩}|false=>rw[c];simp only[aL,if_false];rw[hb rfl]at c1;exact BH c1};obtain⟨N,i3,D,p3,x3⟩:=vD as (p+1) i2 (by rw[r];exact k) X (λg n=>by have D:g∉F1:=λh=>H g h g n rfl;rw[K g D];exact o g (by simp[n])) (λi a S=>by rw[show p+1+i=p+(i+1) from by omega];exact C (i+1) a (by simpa using S));refine⟨N,i3,D.trans r,λq hq=>by rw[p3 q (by omega),V],λi P g l G=>?_⟩;cases i with|zero=>{simp at l}|succ i=>have:=x3 i P g (by simpa using l) (by simpa using G);rw[show p+(i+1)=p+1+i from by omega];exact this
 | .box m::as,vs,F,p,e,s,x,k,t,o,C=>by simp only[kg,AR]at k;obtain⟨v,fu,F1,F2,rfl,rfl,⟨g,T,us,F',rfl,hB,DZ,rfl,L⟩,k⟩:=k;rw[cI]at t;obtain⟨Y,X,H⟩:=t;obtain⟨U,W⟩:=cU.1 Y;obtain⟨oZ,Q,c1,V,r,K,_⟩:=nk (d:=p+1400) m 0 x L W (λg n=>o g (by simp[n]));have c:=C 0 _ rfl;rw[dG]at c;have B:=o g (by simp);obtain⟨N,i2,j2,k2,l2,m2,w2⟩:=Q.J6 (b:=900+p) hB (by rw[K g U];exact B.1) B.2.2 (by rw[r];exact DZ) c1;rw[FE]at i2;have i3:Inv N h0 io w0 (Bu p (.box m) s) f w:=i2.aem p (.ptr (900+p) 0) (by rw[c];simp only[CR,j2]);obtain⟨PU,i4,h4,p4,x4⟩:=vD as (p+1) i3 (by rw[l2,r];exact k) X (λy R=>by have D:y∉F':=λh=>H y (by simp[h]) y R rfl;have h5:y≠g:=λh=>H y (by simp[h]) y R rfl;rw[w2 y h5,K y D];exact o y (by simp[R])) (λi a S=>by rw[show p+1+i=p+(i+1) from by omega];exact C (i+1) a (by simpa using S));refine⟨PU,i4,h4.trans (l2.trans r),λq hq=>by rw[p4 q (by omega),k2 _ (by omega),V],λi P g' l G=>?_⟩;cases i with|zero=>{simp at G;rw[p4 _ (by omega),dG,j2,G]}|succ i=>have:=x4 i P g' (by simpa using l) (by simpa using G);rw[show p+(i+1)=p+1+i from by omega];exact this
theorem zm{t:Gh}{s:St}(Q:Inv t h0 io w0 s f w):∀(n:M C) {vs:M Value} {A:M RV},fi t w n vs->gN (j_ s) n=Z A->
  ∃F,iE t.h w A vs F/\(∀g∈F,∃r∈rowsOf n,t.ω g=.row r)/\((rowsOf n).Nodup->F.Nodup)
 |[],vs,A,p,i=>by simp only[gN,ao]at i;subst i;simp only[fi]at p;subst p;exact⟨[],by simp[iE],λ_ h=>by simp at h,λ_=>by simp⟩
 |c::n,vs,A,p,i=>by simp only[fi]at p;obtain⟨v,L,rfl,m,W⟩:=p;simp only[gN]at i;split at i;{rename_i y l;simp only[ay]at i;obtain⟨Y,i,rfl⟩:=i;obtain⟨F,K,B,H⟩:=zm Q n W i;cases c with|d x=>{simp only[j_,ao]at l;subst l;simp only[CR]at m;refine⟨F,?_,by simpa [rowsOf] using B,by simpa [rowsOf] using H⟩;simp only[iE,Dg];exact⟨v,L,[],F,rfl,rfl,⟨rfl,m⟩,K⟩}|nil k X=>{simp only[j_,ao]at l;subst l;simp only[CR]at m;refine⟨F,?_,by simpa [rowsOf] using B,by simpa [rowsOf] using H⟩;simp only[iE,Dg];exact⟨v,L,[],F,rfl,rfl,⟨⟨O,0,0,m.1,rfl,aI _,by simp[maxLen],m.2,λ_ h=>by simp at h,λ_=>kR,.inl ⟨rfl,rfl,rfl⟩⟩,by simp⟩,K⟩}|ref r=>{simp only[j_,ay]at l;obtain⟨x,S,rfl⟩:=l;simp only[CR]at m;obtain⟨R,V,P,N⟩:=Q.rw r x S;refine⟨R++F,?_,λg o=>?_,λG=>?_⟩;{simp only[iE,Dg];exact⟨v,L,R,F,rfl,rfl,⟨by rw[m.1];exact V,P⟩,K⟩};{rcases aZ.1 o with o|o;{exact⟨r,by simp[rowsOf],N g o⟩};obtain⟨q,D,j⟩:=B g o;exact⟨q,by simp[rowsOf,D],j⟩};simp only[rowsOf,cU]at G;rw[cI];refine⟨P,H G.2,?_⟩;intro a U b T e;subst e;obtain⟨q,D,j⟩:=B a T;rw[N a U]at j;cases j;exact G.1 D}|_=>simp[j_]at l};cases i
end
end
section
open Go.RowKit
section
variable {h0:Nat->Nat} {io:M Nat} {w0:World} {f:Fm} {w:World}
theorem C7(s:St)(r:Nat)(x:Row):(s.dP r).setRow r x=s.setRow r x:=by simp[St.setRow,St.dP,Jv]
theorem Inv.share1{l:Gh}{s:St}(hi:Inv l h0 io w0 s f w){r:Nat}{x:Row}(hl:look s.rw r=Z x) :
  ∃a G,Inv a h0 io w0 (s.setRow r x.share) f w/\a.β=l.β/\a.sl=l.sl/\(∀g,l.h g<=a.h g)/\Rp w (.list x.k x.fl x.es) (l.sl r) G/\dY a.h G/\∀g,a.ω g=l.ω g\/a.ω g=.fK\/a.ω g=.free\/a.ω g=.row r:=by
 obtain⟨j,A,n,c,i2,U,AO,N,o2,l2,F,D,C,B,t,q,m,q8⟩:=hi.AD hl;have L:∀g,j.ω g=l.ω g\/j.ω g=.fK:=λg=>by rcases jY (l.ω g=.row r) with h|h;{exact .inr (l2 g h)};exact .inl (o2 g h)
 rcases q8 with ⟨rfl,rfl⟩|⟨g,o,xs,G,rfl,a2,a3,a4,a5,R,a7,W,a9,xA,X,a12⟩
 .have hR:sF j.h w x.share (j.sl r) []:=⟨O,n,0,by rw[AO];exact F,D,C,B,t,q,m,.inl ⟨rfl,rfl,rfl⟩⟩
  obtain⟨a,h2,h3,h4,h5,h6⟩:=i2.setRow (r:=r) hR (by simp) (λ_ h=>by simp at h);rw[C7]at h2;refine⟨a,[],h2,h4.trans U,h3.trans AO,λg=>by rw[h5,N];exact aI _,?_,λ_ h=>by simp at h,λg=>?_⟩
  .simp only[Rp];exact⟨O,n,0,F,D,C,B,m,t,q,.inl ⟨by omega,trivial⟩⟩
  .rcases h6 g with h|h
   .rw[h];rcases L g with h'|h'
    .exact .inl h'
    .exact .inr (.inl h')
   .exact .inr (.inr (.inr h))
 .have i3:=i2.settle (h':=λy=>if y=g then o+n * x.k else j.h y) (ω':=j.ω) (λy=>by
    split
    .rename_i e;subst e;rw[N];exact W
    .exact aI _)
   (λy p=>by
    have e:y=g:=by rcases jY (y=g) with h|h;{exact h};exact absurd (by simp[h]) p
    subst e;have ho:=i2.own y (by rw[a4];simp);exact⟨ho.1,ho.2,λ_ _ _=>by rw[a4];simp,λ_ _ _=>by rw[a4];simp⟩)
   (λy=>.inl rfl)
   (λy b p=>by
    by_cases e:y=g
    .subst e;rw[a4]at p;cases p
    .simp only[if_neg e];exact i2.nQ y b p)
  have V:∀y,y≠g->HM j w y->HM {j with h:=λy=>if y=g then o+n * x.k else j.h y,ω:=j.ω } w y:=λy p T=>⟨T.1,by simp only[if_neg p];exact T.2.1,T.2.2⟩
  obtain⟨i,i4,Y,b4,m4,g4,w4⟩:=i3.wM (r:=r) (x:=x.share) (n:=n) (c:=c) (g:=g) (o:=o) D C B t q m a2 (.inl a4) (i2.own g (by rw[a4];simp)).2 a5 R a7 (by simp only[if_true];exact aI _) (λh=>by cases h) xA
   (λQ H=>by
    rcases X Q H with h|⟨h,iG⟩
    .by_cases e:Q.1=g
     .simp only[if_pos e];rw[e]at h;exact .inl (aV h W)
     .simp only[if_neg e];rw[N];exact .inl h
    .exact .inr ⟨V _ iG h,iG⟩)
   (λP=>by
    have:G=[]:=R.plain (m P);subst this;simp)
   (by show j.sl r=_;rw[AO];exact F)
  rw[C7]at i4;have mono:∀y,l.h y<=i.h y:=λy=>by refine aV ?_ (m4 y);show l.h y<=if y=g then o+n * x.k else j.h y;split;{rename_i e;subst e;exact W};rw[N];exact aI _
  have S:o+n * x.k<=i.h g:=by have:=m4 g;simpa using this
  have jv:dY i.h G:=by cases P:x.fl with|true=>{have:G=[]:=R.plain (m P);subst this;exact λ_ h=>by simp at h}|false=>exact g4 P
  have K:∀g,i.ω g=l.ω g\/i.ω g=.fK\/i.ω g=.free\/i.ω g=.row r:=λy=>by rcases w4 y with h|h|h;{rw[h];rcases L y with h'|h';{exact .inl h'};exact .inr (.inl h')};{exact .inr (.inr (.inl h))};exact .inr (.inr (.inr h))
  by_cases hn:n=0
  .refine⟨i,[],i4,b4.trans U,Y.trans AO,mono,?_,λ_ h=>by simp at h,K⟩;simp only[Rp];exact⟨_,n,c,F,D,C,B,m,t,q,.inl ⟨hn,trivial⟩⟩
  .refine⟨i,(g,o+n * x.k)::G,i4,b4.trans U,Y.trans AO,mono,?_,λQ H=>?_,K⟩
   .simp only[Rp];exact⟨_,n,c,F,D,C,B,m,t,q,.inr ⟨by omega,g,o,xs,G,rfl,rfl,R,a7⟩⟩
   .rcases aU.1 H with rfl|H
    .exact S
    .exact jv Q H
theorem C1(s:St)(r q:Nat)(x:Row):look (s.setRow r x).rw q=if r=q then Z x else look s.rw q:=by simp only[St.setRow,look,fO];split<;>rfl
theorem Inv.zg:∀(e:M Nat) {i:Gh} {s:St},Inv i h0 io w0 s f w->
  ∃a,Inv a h0 io w0 (eM s e) f w/\a.β=i.β/\a.sl=i.sl/\(∀g,i.h g<=a.h g)/\(∀r∈e,∀x,look s.rw r=Z x->∃G,Rp w (.list x.k x.fl x.es) (i.sl r) G/\dY a.h G)/\
   (∀g,a.ω g=i.ω g\/a.ω g=.fK\/a.ω g=.free\/∃r∈e,a.ω g=.row r)/\(eM s e).sl=s.sl/\(eM s e).bx=s.bx/\∀q,q∉e->look (eM s e).rw q=look s.rw q
 |[],i,s,o=>⟨i,o,rfl,rfl,λ_=>aI _,λ_ h=>by simp at h,λ_=>.inl rfl,rfl,rfl,λ_ _=>rfl⟩
 |r::e,i,s,o=>by cases m:look s.rw r with|none=>{obtain⟨a,B,N,n,A,X,p,K,H,F⟩:=Inv.zg e o;(have L:eM s (r::e)=eM s e:=by simp[eM,m]);rw[L];refine⟨a,B,N,n,A,λq c x D=>?_,λg=>?_,K,H,λq c=>F q (λh=>c (by simp[h]))⟩;{rcases aU.1 c with rfl|c;{rw[m]at D;cases D};exact X q c x D};rcases p g with h|h|h|⟨q,c,h⟩;{exact .inl h};{exact .inr (.inl h)};{exact .inr (.inr (.inl h))};exact .inr (.inr (.inr ⟨q,by simp[c],h⟩))}|some x=>obtain⟨oZ,G,B,N,n,A,t,P,p⟩:=o.share1 m;obtain⟨T,i2,Y,S,Q,W,R,K,H,F⟩:=Inv.zg e B;(have L:eM s (r::e)=eM (s.setRow r x.share) e:=by simp[eM,m]);rw[L];refine⟨T,i2,Y.trans N,S.trans n,λg=>aV (A g) (Q g),λq c y C=>?_,λg=>?_,K,H,λq c=>?_⟩;{by_cases j:q=r;{subst j;rw[m]at C;cases C;exact⟨G,t,P.mono Q⟩};rcases aU.1 c with c|c;{exact absurd c j};obtain⟨G',V,U⟩:=W q c y (by rw[C1,if_neg (ow j)];exact C);exact⟨G',by rw[<- n];exact V,U⟩};{rcases R g with h|h|h|⟨q,c,h⟩;{rw[h];rcases p g with l|l|l|l;{exact .inl l};{exact .inr (.inl l)};{exact .inr (.inr (.inl l))};exact .inr (.inr (.inr ⟨r,by simp,l⟩))};{exact .inr (.inl h)};{exact .inr (.inr (.inl h))};exact .inr (.inr (.inr ⟨q,by simp[c],h⟩))};simp only[aU,not_or]at c;rw[F q c.2,C1,if_neg (ow c.1)]
theorem uw:∀(l:M Nat),k8 l=I↔l.Nodup
 |[]=>by simp[k8]
 |x::l=>by simp[k8,uw l]
theorem Uz{s S:St}:∀(a:M C),(∀r∈rowsOf a,look S.rw r=look s.rw r)->gN (j_ S) a=gN (j_ s) a
 |[],_=>rfl
 |c::a,h=>by have b:=Uz (s:=s) (S:=S) a (λr d=>h r (by cases c<;>simp[rowsOf,d]));simp only[gN,b];cases c with|ref r=>{simp only[j_,h r (by simp[rowsOf])]}|_=>rfl
theorem Uy{s:St}:∀{a:M C} {b:M RV},gN (j_ s) a=Z b->a.all C.cell=I
 |[],_,_=>rfl
 |c::a,b,h=>by simp only[gN]at h;split at h;{rename_i y e;simp only[ay]at h;obtain⟨g,h,_⟩:=h;have d:=Uy h;cases c<;>simp_all[j_,C.cell]};cases h
theorem AL{s:St}:∀{a:M C} {b:M RV},gN (mY s) a=Z b->a.all C.cell=I
 |[],_,_=>rfl
 |c::a,b,h=>by simp only[gN]at h;split at h;{rename_i y e;simp only[ay]at h;obtain⟨g,h,_⟩:=h;have d:=AL h;cases c<;>simp_all[mY,C.cell]};cases h
theorem abF{l o:Gh}{s:St}{p:M Nat}(q:∀g,l.h g<=o.h g)(A:∀r∈p,∀x,look s.rw r=Z x->∃G,Rp w (.list x.k x.fl x.es) (l.sl r) G/\dY o.h G) :
  ∀(i:M C) {vs:M Value} {j:M RV},fi l w i vs->gN (mY s) i=Z j->(∀r∈rowsOf i,r∈p)->iE o.h w j vs []
 |[],vs,j,e,h,_=>by simp only[gN,ao]at h;subst h;simp only[fi]at e;simp[iE,e]
 |c::i,vs,j,e,h,t=>by simp only[fi]at e;obtain⟨v,H,rfl,b,K⟩:=e;simp only[gN]at h;split at h;{rename_i y a;simp only[ay]at h;obtain⟨N,h,rfl⟩:=h;have B:=abF q A i K h (λr F=>t r (by cases c<;>simp[rowsOf,F]));simp only[iE];refine⟨v,H,[],[],rfl,rfl,?_,B⟩;cases c with|d x=>{simp only[mY,ao]at a;subst a;simp only[CR]at b;obtain⟨G,n,m⟩:=b;exact⟨rfl,G,n,m.mono q⟩}|nil k L=>{simp only[mY,ao]at a;subst a;simp only[CR]at b;refine⟨rfl,[],?_,λ_ h=>by simp at h⟩;simp only[Rp];exact⟨O,0,0,b.1,rfl,aI _,by simp[maxLen],λ_=>kR,b.2,λ_ h=>by simp at h,.inl ⟨rfl,trivial⟩⟩}|ref r=>{simp only[mY,ay]at a;obtain⟨x,D,rfl⟩:=a;simp only[CR]at b;obtain⟨G,n,m⟩:=A r (t r (by simp[rowsOf])) x D;exact⟨rfl,G,by rw[b.1];exact n,m⟩}|_=>simp[mY]at a};cases h
theorem Es{H j:Gh}{s S:St}{X:M Nat}(hS:Inv j h0 io w0 S f w)(hb:j.β=H.β)(nj:j.sl=H.sl)(P:∀g,H.h g<=j.h g)(XX:S.bx=s.bx)(hG:∀r∈X,∀x,look s.rw r=Z x->∃G,Rp w (.list x.k x.fl x.es) (H.sl r) G/\dY j.h G)
  (Q:∀q,q∉X->look S.rw q=look s.rw q):∀(i:M C) {vs:M Value} {as:M A},fi H w i vs->wC s i=Z as->(∀r∈il i,r∈X)->(∀r∈dz s i,r∉X)->(dz s i).Nodup->(cN i).Nodup->
   ∃F,kg j.h w as vs F/\F.Nodup/\(∀g∈F,(∃r∈dz s i,j.ω g=.row r)\/∃b∈cN i,j.ω g=.box b/\g=j.β b)/\∀b∈cN i,Value.pointer (Z ⟨j.β b,0,O⟩)∈ft as vs
 |[],vs,as,R,h,_,_,_,_=>by simp only[wC,ao]at h;subst h;simp only[fi]at R;exact⟨[],by simp[kg,R],by simp,λ_ h=>by simp at h,λ_ h=>by simp[cN]at h⟩
 |c::i,vs,as,R,h,hl,o,uR,K=>by simp only[fi]at R;obtain⟨v,fu,rfl,hv,Ie⟩:=R;simp only[wC]at h;split at h;{rename_i a t;simp only[ay]at h;obtain⟨MH,h,rfl⟩:=h;simp only[il,dz]at hl o uR;rw[cI]at uR;obtain⟨Ag,Oe,L⟩:=uR;have apQ:(cN i).Nodup:=by{cases c<;>simp_all[cN]};obtain⟨F2,r2,d2,Y,p2⟩:=Es hS hb nj P XX hG Q i Ie h (λr d=>hl r (by simp[d])) (λr d=>o r (by simp[d])) Oe apQ;have Ti:CR j w c v:=hv.mono (γ':=j) P (λ_ _ _=>rfl) hb nj c;unfold RW at t;split at t;{rename_i b;split at t;{rename_i XR V;simp only[ay]at t;obtain⟨rs,D,rfl⟩:=t;(have N:oH s (.ptr b 0)=rowsOf XR:=by simp[oH,V]);rw[N]at o Ag L;obtain⟨T,us,k1,k2,B⟩:=hS.bx b XR (by rw[XX];exact V);rw[<- Uz (S:=S) _ (λr d=>Q r (o r (by simp[d])))]at D;obtain⟨F1,x1,x2,x3⟩:=zm hS _ k2 D;simp only[CR]at Ti;simp only[cN,cU]at K;refine⟨(j.β b::F1)++F2,?_,?_,λg p=>?_,λW l=>?_⟩;{simp only[kg];refine⟨v,fu,j.β b::F1,F2,rfl,rfl,?_,r2⟩;simp only[AR];exact⟨_,T,us,F1,Ti,k1,hS.nQ _ b B,rfl,x1⟩};{rw[cI];refine⟨cU.2 ⟨λP=>?_,x3 Ag⟩,d2,?_⟩;{obtain⟨r,_,d⟩:=x2 _ P;rw[B]at d;cases d};intro x hx y hy e;subst e;rcases aU.1 hx with rfl|hx;{rcases Y _ hy with ⟨q,hq,n⟩|⟨W,l,n,_⟩;{rw[B]at n;cases n};rw[B]at n;cases n;exact K.1 l};obtain⟨r,d,m⟩:=x2 x hx;rcases Y x hy with ⟨q,hq,n⟩|⟨W,l,n,_⟩;{rw[m]at n;cases n;exact L _ d _ hq rfl};rw[m]at n;cases n};{rcases aZ.1 p with p|p;{rcases aU.1 p with rfl|p;{exact .inr ⟨b,by simp[cN],B,rfl⟩};obtain⟨r,d,m⟩:=x2 g p;exact .inl ⟨r,by simp only[dz,aZ,N];exact .inl d,m⟩};rcases Y g p with ⟨r,d,m⟩|⟨W,l,m⟩;{exact .inl ⟨r,by simp only[dz,aZ];exact .inr d,m⟩};exact .inr ⟨W,by simp[cN,l],m⟩};simp only[cN,aU]at l;simp only[ft,aU];rcases l with rfl|l;{exact .inl Ti.symm};exact .inr (p2 W l)};cases t};rename_i hnp;simp only[ay]at t;obtain⟨rs,D,rfl⟩:=t;obtain⟨k1,k2,B⟩:=hv.cells (AL D);have x1:=abF P hG _ k1 D (λr d=>hl r (by simp[d]));have U:cN (c::i)=cN i:=by{have CX:=AL D;cases c<;>simp_all[cN,C.cells,C.cell]};refine⟨F2,?_,d2,λg p=>?_,λb l=>?_⟩;{simp only[kg];refine⟨v,fu,[],F2,rfl,rfl,?_,r2⟩;simp only[AR];refine⟨_,x1,λDY=>?_,λDY=>by rw[k2 DY]⟩;obtain⟨us,rfl⟩:=B DY;simp[Value.cells]};{rw[U];rcases Y g p with ⟨r,d,m⟩|m;{exact .inl ⟨r,by simp only[dz,aZ];exact .inr d,m⟩};exact .inr m};rw[U]at l;simp only[ft];exact p2 b l};cases h
theorem Nj{d a:Gh}{s:St}{m:M Nat}(q:∀g,d.h g<=a.h g)(j:a.β=d.β)(n:a.sl=d.sl)(t:∀r∈m,∀x,look s.rw r=Z x->∃G,Rp w (.list x.k x.fl x.es) (d.sl r) G/\dY a.h G) :
  ∀{l:M C} {vs:M Value},(∀r∈rowsOf l,r∈m)->fi d w l vs->fi a w (l.map (Qi s)) vs
 |[],vs,_,h=>by simpa only [cA,fi] using h
 |c::l,vs,p,h=>by simp only[fi]at h;obtain⟨v,F,rfl,b,A⟩:=h;simp only[bc,fi];refine⟨v,F,rfl,?_,Nj q j n t (λr o=>p r (by cases c<;>simp_all[rowsOf])) A⟩;have i:CR a w c v:=CR.mono q (λ_ _ _=>rfl) j n c b;cases c with|ref r=>{simp only[Qi];split;{rename_i x o;obtain⟨G,D,B⟩:=t r (p r (by simp[rowsOf])) x o;simp only[CR]at b ⊢;rw[b.1];exact⟨G,D,B⟩};exact i}|nil k H=>{simp only[CR]at b;simp only[Qi,CR];exact⟨[],by simp only[Rp];exact⟨O,0,0,b.1,rfl,aI _,by simp[maxLen],λ_=>kR,b.2,λe y=>by simp at y,.inl ⟨rfl,trivial⟩⟩,λK j=>by simp at j⟩}|_=>exact i
theorem Inv.sI{m:Gh}{s H:St}{d:Nat}(j:Inv m h0 io w0 s f w)(i:Proofs.YtgnmdaifiodnnaaGreatDoor.sI s d=Z H):∃a,Inv a h0 io w0 H f w/\a.β=m.β/\∀g,m.h g<=a.h g:=by unfold Proofs.YtgnmdaifiodnnaaGreatDoor.sI at i;split at i;{rename_i r n;split at i;{rename_i x t;cases i;obtain⟨a,q,p,F,y,A,_⟩:=j.zg [r];obtain⟨G,N,L⟩:=A r (by simp) x t;have c:=j.get d;rw[n]at c;simp only[CR]at c;exact⟨a,q.aem d _ (by simp only[CR];rw[c.1];exact⟨G,N,L⟩),p,y⟩};cases i};{rename_i k U n;cases i;have c:=j.get d;rw[n]at c;simp only[CR]at c;exact⟨m,j.aem d _ (by simp only[CR];exact⟨[],by simp only[Rp];exact⟨O,0,0,c.1,rfl,aI _,by simp[maxLen],λ_=>kR,c.2,λe o=>by simp at o,.inl ⟨rfl,trivial⟩⟩,λV K=>by simp at K⟩),rfl,λ_=>aI _⟩};{rename_i b n;split at i;{rename_i C t;cases i;obtain⟨T,vs,hB,Q,S⟩:=j.bx b C t;obtain⟨a,q,p,F,y,A,_,_,B,_⟩:=j.zg (rowsOf C);obtain⟨W,R,l,P,D⟩:=q.bx b C (by rw[B];exact t);have c:R=vs:=by{rw[p]at l;have o:=fQ (l.symm.trans hB);(injection o with o);simpa using congrArg Array.toList o};exact⟨a,q.gA l D (c▸Nj y p F A (λr n=>n) Q),p,y⟩};cases i;exact⟨m,j,rfl,λ_=>aI _⟩};cases i;exact⟨m,j,rfl,λ_=>aI _⟩
end
end
section
open Go.RowKit
section
variable {h0:Nat->Nat} {io:M Nat} {w0:World} {f:Fm} {w:World}
theorem Inv.after{c:Gh}{s:St}(t:Inv c h0 io w0 s f w){G h':Nat->Nat}{F mv bs:M Nat}{B:World}(n:ye G F w B h')(L:∀g,c.h g<=G g)(R:∀g∈F,(∃r∈mv,c.ω g=.row r)\/∃b∈bs,c.ω g=.box b)(T:∀r∈mv,look s.rw r=O)(V:∀b∈bs,look s.bx b=O)
  (N:∀g∈F,∀b,c.ω g=.box b->h' g=0) :
  Bc c (λo=>(∃r∈mv,o=.row r)\/∃b∈bs,o=.box b) w B/\
  ∃i,Inv i h0 io w0 s f B/\i.β=c.β/\i.sl=c.sl/\(∀g,c.h g<=i.h g)/\(∀g,g<w.heap.size->g∉F->i.h g=c.h g)/\(∀g,w.heap.size<=g\/g∈F->i.h g=h' g)/\(∀g∈F,(∃r∈mv,c.ω g=.row r)->i.ω g=.fK)/\(∀g b,c.ω g=.box b->i.ω g=.box b)/\(∀g,w.heap.size<=g->i.ω g=.free):=by
 have A:∀g∈F,(∃r∈mv,c.ω g=.row r)\/∃b∈bs,c.ω g=.box b:=R;have S:Bc c (λo=>(∃r∈mv,o=.row r)\/∃b∈bs,o=.box b) w B:={
  os:=n.os,tape:=n.tape,output:=n.output,size:=n.size
  block:=λg a U=>n.block g a (λC=>U (A g C))
  cell:=λg j hj=>by have a:g<w.heap.size:=by{rcases ed g w.heap.size with h|h;{exact h};have:=t.fN g h;omega};exact n.cell g j a (bZ hj (L g))
  jq:=n.jq }
 have Y:=t.Yl S (by rintro (⟨r,_,h⟩|⟨b,_,h⟩)<;>cases h) (λb h=>by
   rcases h with ⟨r,_,h⟩|⟨Q,K,h⟩
   .cases h
   .cases h;exact V b K) (λr h=>by
   rcases h with ⟨r',H,h⟩|⟨Q,_,h⟩
   .cases h;exact T r H
   .cases h)
 have y:∀g∈F,(∀b P,look s.bx b=Z P->c.ω g≠.box b)/\∀r x,look s.rw r=Z x->c.ω g≠.row r:=by intro g a;rcases A g a with ⟨r,H,h⟩|⟨b,K,h⟩;{refine⟨λb P _=>by rw[h];simp,λq x D=>?_⟩;rw[h];intro e;cases e;rw[T r H]at D;cases D};refine⟨λQ P D=>?_,λq x _=>by rw[h];simp⟩;rw[h];intro e;cases e;rw[V b K]at D;cases D
 refine⟨S,?_⟩;have i2:=Y.settle (h':=λg=>if g<w.heap.size/\g∉F then c.h g else h' g) (ω':=λg=>match c.ω g with | .row r=>if r∈mv/\g∈F then .fK else .row r|o=>o)
  (λg=>by
   split
   .exact aI _
   .rename_i U;rcases ed g w.heap.size with h|h
    .exact aV (L g) (n.mono g h)
    .rw[t.fN g h];omega)
  (λg a=>by
   by_cases m:g<w.heap.size/\g∉F
   .simp[m]at a
   .simp only[if_neg m]at a;rcases ed g w.heap.size with h|h
    .have C:g∈F:=by
      rcases jY (g∈F) with l|l
      .exact l
      .exact absurd ⟨h,l⟩ m
     have X:c.ω g≠.free:=by rcases A g C with ⟨r,_,h⟩|⟨b,_,h⟩<;>rw[h]<;>simp
     exact⟨bZ h n.size,(t.own g X).2,y g C⟩
    .have gf:g<B.heap.size:=by
      rcases ed g B.heap.size with l|l
      .exact l
      .exact absurd (by rw[n.fN g l,t.fN g h]) a
     have W:=t.uI h;exact⟨gf,.inl (aV t.size h),λ_ _ _=>by rw[W];simp,λ_ _ _=>by rw[W];simp⟩)
  (λg=>by
   cases p:c.ω g with
   |row r=>
    simp only
    by_cases m:r∈mv/\g∈F
    .rw[if_pos m];have:=y g m.2;rw[p]at this;exact .inr ⟨.inr rfl,by simp,this⟩
    .rw[if_neg m];exact .inl rfl
   |_=>exact .inl rfl)
  (λg b a=>by
   have p:c.ω g=.box b:=by cases p:c.ω g with|row r=>{rw[p]at a;simp only at a;split at a<;>cases a}|free=>{rw[p]at a;cases a}|fK=>{rw[p]at a;cases a}|box Q=>rw[p]at a;exact a
   by_cases m:g<w.heap.size/\g∉F
   .simp only[if_pos m];exact t.nQ g b p
   .simp only[if_neg m];rcases ed g w.heap.size with h|h
    .have C:g∈F:=by
      rcases jY (g∈F) with l|l
      .exact l
      .exact absurd ⟨h,l⟩ m
     exact N g C b p
    .rw[t.uI h]at p;cases p)
 refine⟨_,i2,rfl,rfl,λg=>?_,λg G l=>by simp[G,l],λg a=>?_,λg a ⟨r,H,h⟩=>by simp[h,H,a],λg b h=>by simp[h],λg a=>by simp[t.uI a]⟩
 .dsimp only;split
  .exact aI _
  .rcases ed g w.heap.size with h|h
   .exact aV (L g) (n.mono g h)
   .rw[t.fN g h];omega
 .have m:¬(g<w.heap.size/\g∉F):=by
   rintro⟨G,l⟩
   rcases a with h|h
   .omega
   .exact l h
  simp only[if_neg m]
theorem sF.re{h i:Nat->Nat}{x:Row}{v:Value}{F:M Nat}(D:sF h w x v F)(e:∀g∈F,i g=h g)(a:x.deep=I\/∀g,h g<=i g):sF i w x v F:=by obtain⟨A,n,c,B,y,t,s,r,q,p,d⟩:=D;refine⟨A,n,c,B,y,t,s,r,q,p,?_⟩;rcases d with d|⟨g,o,m,G,a1,a2,a3,a4,a5,N,L,K,a9,b⟩;{exact .inl d};have k:g∈F:=by{cases hd:x.deep with|true=>{rw[(a9 hd).1];simp}|false=>rw[(b hd).1];simp};refine .inr ⟨g,o,m,G,a1,a2,a3,a4,a5,by rw[e g k];exact N,λC=>by rw[e g k];exact L C,K,λhd=>⟨(a9 hd).1,λj l=>?_⟩,λhd=>⟨(b hd).1,?_⟩⟩;{(have H:j.1∈F:=by rw[(a9 hd).1];simp;exact .inr ⟨j.2,l⟩);rw[e _ H];exact (a9 hd).2 j l};rcases a with a|a;{rw[hd]at a;cases a};exact (b hd).2.mono a
theorem iE.re{h m:Nat->Nat}:∀{c:M RV} {vs:M Value} {F:M Nat},iE h w c vs F->(∀g∈F,m g=h g)->(c.all RV.closed=I\/∀g,h g<=m g)->iE m w c vs F
 |[],_,_,b,_,_=>by simpa only [iE] using b
 | .d x::c,_,_,b,e,a=>by simp only[iE,Dg]at b ⊢;obtain⟨v,n,p,o,rfl,rfl,⟨rfl,G,i,l⟩,k⟩:=b;refine⟨v,n,[],o,rfl,rfl,⟨rfl,G,i,?_⟩,iE.re k (by simpa using e) (a.imp (λh=>by simp at h ⊢;exact h.2) id)⟩;rcases a with a|a;{simp only[cK,aw,RV.closed]at a;(have:fR w [x] [v] G:=by simp only[fR];exact⟨v,[],G,[],rfl,by simp,i,rfl,rfl⟩);have q:G=[]:=this.plain (by simp[a.1]);subst q;exact λ_ h=>by simp at h};exact l.mono a
 | .row x::c,_,_,b,e,a=>by simp only[iE,Dg]at b ⊢;obtain⟨v,n,p,o,rfl,rfl,⟨i,l⟩,k⟩:=b;refine⟨v,n,p,o,rfl,rfl,⟨i.re (λg j=>e g (by simp[j])) (a.imp (λh=>by simp[RV.closed]at h;exact h.1) id),l⟩,iE.re k (λg j=>e g (by simp[j])) (a.imp (λh=>by simp at h ⊢;exact h.2) id)⟩
theorem kg.re{h n:Nat->Nat}:∀{c:M A} {vs:M Value} {F:M Nat},kg h w c vs F->(∀g∈F,n g=h g)->(c.all A.closed=I\/∀g,h g<=n g)->kg n w c vs F
 |[],_,_,a,_,_=>by simpa only [kg] using a
 | .val x cs::c,_,_,a,b,e=>by simp only[kg,AR]at a ⊢;obtain⟨v,o,q,p,rfl,rfl,⟨i,l,k⟩,j⟩:=a;exact⟨v,o,q,p,rfl,rfl,⟨i,l.re (λg d=>b g (by simp[d])) (e.imp (λh=>by simp only[cK,aw,A.closed]at h;exact h.1) id),k⟩,kg.re j (λg d=>b g (by simp[d])) (e.imp (λh=>by simp only[cK,aw]at h;exact h.2) id)⟩
 | .box cs::c,_,_,a,b,e=>by simp only[kg,AR]at a ⊢;obtain⟨v,o,q,p,rfl,rfl,⟨g,T,i,r,t,m,l,rfl,k⟩,j⟩:=a;refine⟨v,o,g::r,p,rfl,rfl,⟨g,T,i,r,t,m,by rw[b g (by simp)];exact l,rfl,k.re (λy s=>b y (by simp[s])) (e.imp (λh=>by simp only[cK,aw,A.closed]at h;exact h.1) id)⟩,kg.re j (λg d=>b g (by simp[d])) (e.imp (λh=>by simp only[cK,aw]at h;exact h.2) id)⟩
theorem AR.ptr{h:Nat->Nat}{a:A}{g:Nat}{F:M Nat}(j:AR h w a (.pointer (Z ⟨g,0,O⟩)) F):(∃i,a=.box i)/\h g=0/\g∈F:=by cases a with|val y i=>{simp only[AR]at j;obtain⟨q,o,t,m⟩:=j;cases y with|true=>{cases t rfl}|false=>have:=m rfl;subst this;cases i with|nil=>{simp[iE]at o}|cons r B=>simp only[iE]at o;obtain⟨v,D,K,H,e,_,l,_⟩:=o;simp only[cr]at e;rw[<- e.1]at l;cases r with|d x=>{obtain⟨_,G,p,_⟩:=l;have:=p.vR;cases x<;>simp[Rp]at p}|row x=>obtain⟨A,n,c,s⟩:=l.1.slice;cases s}|box i=>simp only[AR]at j;obtain⟨C,T,q,L,e,_,m,rfl,_⟩:=j;simp only[Value.pointer.injEq,ao,Addr.mk.injEq,and_true]at e;subst e;exact⟨⟨i,rfl⟩,m,by simp⟩
theorem kg.ptr{h:Nat->Nat}:∀{as:M A} {vs:M Value} {F:M Nat},kg h w as vs F->∀g,Value.pointer (Z ⟨g,0,O⟩)∈vs->h g=0/\g∈F
 |[],_,_,c,g,b=>by simp only[kg]at c;rw[c.1]at b;simp at b
 |a::as,_,_,c,g,b=>by simp only[kg]at c;obtain⟨v,k,m,l,rfl,rfl,j,i⟩:=c;rcases aU.1 b with rfl|b;{obtain⟨_,e,d⟩:=j.ptr;exact⟨e,by simp[d]⟩};obtain⟨e,d⟩:=kg.ptr i g b;exact⟨e,by simp[d]⟩
def IB(β:Nat->Nat):M C->M Value->Prop
 |[],vs=>vs=[]
 |c::cs,vs=>∃v a,vs=v::a/\(∀b,c=.ptr b 0->v=.pointer (Z ⟨β b,0,O⟩))/\IB β cs a
theorem fi.mG{d:Gh}:∀{a:M C} {vs:M Value},fi d w a vs->IB d.β a vs
 |[],_,h=>by simpa only [fi,IB] using h
 |c::a,_,h=>by simp only[fi]at h;obtain⟨v,j,rfl,i,g⟩:=h;simp only[IB];exact⟨v,j,rfl,λb e=>by subst e;simpa only [CR] using i,fi.mG g⟩
theorem CL:∀(n:M C) {as outs:M A} {vs:M Value} {F:M Nat} {k:Gh} {s s':St},Inv k h0 io w0 s f w->IB k.β n vs->wC s' n=Z as->kg k.h w outs (ft as vs) F->F.Nodup->(∀g∈F,(k.ω g=.free\/k.ω g=.fK\/Value.pointer (Z ⟨g,0,O⟩)∈ft as vs)/\g<w.heap.size/\(w0.heap.size<=g\/g∈io))->
  (∀b∈cN n,k.ω (k.β b)=.box b)->∃l,Inv l h0 io w0 (l6 s n outs) f w/\l.β=k.β/\l.h=k.h/\∀g,g∉F->l.ω g=k.ω g
 |[],as,outs,vs,F,k,s,s',H,_,_,_,_,_,_=>⟨k,by simpa [l6] using H,rfl,rfl,λ_ _=>rfl⟩
 |c::n,as,outs,vs,F,k,s,s',H,W,p,r,N,t,q=>by simp only[IB]at W;obtain⟨v,fu,rfl,x,Ie⟩:=W;simp only[wC]at p;split at p;{rename_i a i;simp only[ay]at p;obtain⟨MH,p,rfl⟩:=p;by_cases P:∃b,c=.ptr b 0;{obtain⟨b,rfl⟩:=P;have nQ:∃m,a=.box m:=by{simp only[RW]at i;split at i;{simp only[ay]at i;obtain⟨m,_,rfl⟩:=i;exact⟨m,rfl⟩};cases i};obtain⟨m,rfl⟩:=nQ;simp only[ft]at r t;have x:=x b rfl;cases outs with|nil=>{simp[kg]at r}|cons o outs=>simp only[kg]at r;obtain⟨v0,ovs,F1,F2,e,rfl,K,X⟩:=r;simp only[cr]at e;obtain⟨rfl,rfl⟩:=e;rw[x]at K;obtain⟨⟨XR,rfl⟩,hz,hgm⟩:=K.ptr;simp only[AR]at K;obtain⟨g,T,us,F',e,hB,DZ,rfl,rU⟩:=K;simp only[Value.pointer.injEq,ao,Addr.mk.injEq,and_true]at e;subst e;rw[cI]at N;obtain⟨Ag,Oe,L⟩:=N;obtain⟨y,S⟩:=cU.1 Ag;have KN:∀g∈F',k.ω g=.free\/k.ω g=.fK:=by{intro g j;rcases (t g (by simp[j])).1 with h|h|h;{exact .inl h};{exact .inr h};exfalso;rcases aU.1 h with h|h;{rw[x]at h;simp only[Value.pointer.injEq,ao,Addr.mk.injEq,and_true]at h;exact y (h▸j)};have:=(kg.ptr X g h).2;exact L g (by simp[j]) g this rfl};obtain⟨U,i1,c1,D,B,G,s1⟩:=nk (d:=b+500) XR 0 H rU S (λg j=>⟨KN g j,(t g (by simp[j])).2⟩);have R:U.ω (U.β b)=.box b:=by{rw[D,G _ y];exact q b (by simp[cN])};have i2:=i1.gA (b:=b) (by rw[D];exact hB) R c1;have Q:∀g,g∈F2->g∉F':=λg j h=>L g (by simp[h]) g j rfl;obtain⟨n9,i3,b3,h3,o3⟩:=CL n (as:=MH) (outs:=outs) (vs:=fu) (F:=F2) i2 (by rw[D];exact Ie) p (by rw[B];exact X) Oe (λg j=>by obtain⟨k1,k2⟩:=t g (by simp[j]);refine⟨?_,k2⟩;rw[G g (Q g j)];rcases k1 with h|h|h;{exact .inl h};{exact .inr (.inl h)};rcases aU.1 h with h|h;{exfalso;rw[x]at h;simp only[Value.pointer.injEq,ao,Addr.mk.injEq,and_true]at h;exact L g (by simp[h]) g j rfl};exact .inr (.inr h)) (λb' mJ=>by have V:=q b' (by simp[cN,mJ]);rw[D,G];{exact V};intro hm;rcases KN _ hm with h|h<;>rw[V]at h<;>cases h);refine⟨n9,by simpa [l6] using i3,b3.trans D,h3.trans B,λg j=>?_⟩;simp only[aZ,aU,not_or]at j;rw[o3 g j.2,G g j.1.2]};have Fq:∃Y m,a=.val Y m:=by{unfold RW at i;split at i;{rename_i b;exact absurd ⟨b,rfl⟩ P};simp only[ay]at i;obtain⟨m,_,rfl⟩:=i;exact⟨_,m,rfl⟩};obtain⟨Y,m,rfl⟩:=Fq;simp only[ft]at r t;have e:l6 s (c::n) outs=l6 s n outs:=by{cases c with|ptr b o=>{cases o with|zero=>{exact absurd ⟨b,rfl⟩ P}|succ o=>simp[l6]}|_=>simp[l6]};rw[e];exact CL n H Ie p r N t (λb hb=>q b (by cases c<;>simp[cN,hb]))};cases p
theorem AM{d:Nat}:∀(l:M A) {o:M Value} {F:M Nat} (q:Nat) {c:Gh} {s:St},Inv c h0 io w0 s f w->kg c.h w l o F->F.Nodup->(∀g∈F,(c.ω g=.free\/c.ω g=.fK)/\g<w.heap.size/\(w0.heap.size<=g\/g∈io))->(∀a∈l,∃x m,a=.val x m/\m.length<=30)->
  ∃b,Inv b h0 io w0 (iL d q l s).2 f w/\fi b w (iL d q l s).1 o/\b.β=c.β/\b.h=c.h/\∀r,(∀i,30 * q<=i->r≠vm d i)->b.sl r=c.sl r
 |[],o,F,q,c,s,k,e,_,_,_=>by simp only[kg]at e;obtain⟨rfl,rfl⟩:=e;exact⟨c,by simpa [iL] using k,by simp[iL,fi],rfl,rfl,λ_ _=>rfl⟩
 |a::l,o,F,q,c,s,k,e,C,H,D=>by obtain⟨x,m,rfl,G⟩:=D a (by simp);simp only[kg,AR]at e;obtain⟨v,fu,F1,F2,rfl,rfl,⟨y,K,h4,Y⟩,X⟩:=e;rw[cI]at C;obtain⟨Ag,Oe,P⟩:=C;have T:=K.length;obtain⟨oZ,S,c1,b1,N,R,Q⟩:=tY (d:=d) m (30 * q) k K Ag (λg p=>H g (by simp[p]));obtain⟨t,i2,c2,b2,L,B⟩:=AM l (q+1) S (by rw[N];exact X) Oe (λg p=>by rw[R g (λh=>P g h g p rfl)];exact H g (by simp[p])) (λa W=>D a (by simp[W]));have n:fi t w (er d (30 * q) m s).1 y:=by{refine c1 t (by rw[L]) (λj V U=>B _ (λi k=>Ru (by omega)))};refine⟨t,i2,?_,b2.trans b1,L.trans N,λr e=>?_⟩;{simp only[iL,fi];refine⟨v,fu,rfl,?_,c2⟩;cases x with|true=>{rw[h4 rfl];simp only[if_true,CR];exact⟨y,rfl,n⟩}|false=>simp only[aL,if_false];have:=Y rfl;subst this;exact BH n};rw[B r (λi k=>e i (by omega)),Q r (λi k=>e i k)]
end
end
end Go.Proofs.YtgnmdaifiodnnaaGreatDoor
