/- Part of the proof: a machine over plain data, its proof, the functions of the program run on symbols, what they answer. Condition: none. -/
import Derived.WalkKit
import Derived.WalkSpells
import Derived.WalkLawsBesides
import Derived.Deep.LoopGhost
import Derived.OrdersHeld
import Derived.Lib.ItoaNum
import Derived.Lib.Bytealg
import Derived.Lib.LaidTab
import Derived.Laws.Tables
set_option linter.unusedVariables false
set_option linter.unusedSimpArgs false
namespace Go.Proofs.YtcdjbelccndadaaGreatDoor
section
open Go.RowKit
inductive V where
 |int (n:Int)
 |bool (b:Bool)
 |str (s:ByteArray)
 |list (xs:List V)
 |agg (fs:List V)
mutual
def V.cnt:V→Nat
 | .int _=>1
 | .bool _=>1
 | .str _=>1
 | .list xs=>V.cnts xs+1
 | .agg fs=>V.cnts fs+1
def V.cnts:List V→Nat
 |[]=>0
 |f::fs=>V.cnt f+V.cnts fs+1
end
def Lies(w:World)(b o:Nat)(cs:List Value):Prop:=∀j u,cs[j]?=some u→w.cell? ⟨b,o+j,none⟩=some u
theorem add_mk(b o n:Nat):(⟨b,o,none⟩:Addr).add n=⟨b,o+n,none⟩:=by
 unfold Addr.add;split
 ·rename_i h;subst h;rfl
 ·rfl
theorem Lies.keep{w w':World}{b o:Nat}{cs:List Value}(h:Lies w b o cs)(hk:w'.heap[b]?=w.heap[b]?):Lies w' b o cs:=by
 intro j u hu;rw[World.cell?_of_block (w:=w) hk];exact h j u hu
theorem Lies.sub{w:World}{b o:Nat}{cs:List Value}(h:Lies w b o cs)(j k:Nat):Lies w b (o+j) ((cs.drop j).take k):=by
 intro i u hu;rw[List.getElem?_take]at hu
 split at hu
 ·rw[List.getElem?_drop]at hu;rw[Nat.add_assoc];exact h _ u hu
 ·cases hu
theorem lt_of_get{w:World}{b:Nat}{o:Obj}(h:w.heap[b]?=some o):b < w.heap.size:=by
 rcases Nat.lt_or_ge b w.heap.size with hl|hl
 ·exact hl
 ·simp[Array.getElem?_eq_none hl]at h
theorem lt_keep{w w':World}{b:Nat}(hb:b < w.heap.size)(hk:w'.heap[b]?=w.heap[b]?):b < w'.heap.size:=by
 rw[Array.getElem?_eq_getElem hb]at hk;exact lt_of_get hk
structure Bel (B:Nat) (w w':World):Prop extends Below B w w' where
 thaw:∀g,B≤g→∀o,w'.frozen? ⟨g,o,none⟩=false
theorem frozen_out{w:World}{g:Nat}(h:w.heap.size≤g)(o:Nat):w.frozen? ⟨g,o,none⟩=false:=by
 simp[World.frozen?,Array.getElem?_eq_none h]
theorem bel_refl(w:World):Bel w.heap.size w w:=⟨Below.refl _ _,fun _ hg o=>frozen_out hg o⟩
theorem Bel.drew{B:Nat}{a w:World}(h:Bel B a w):Bel B a w.drew:=⟨h.toBelow.drew,h.thaw⟩
theorem bel_next{B:Nat}{a w w':World}(h:Bel B a w)(hk:Bel w.heap.size w w')(hB:B≤w.heap.size):Bel B a w':=by
 refine⟨h.toBelow.trans (hk.toBelow.mono hB),fun g hg o=>?_⟩;rcases Nat.lt_or_ge g w.heap.size with hl|hl
 ·rw[World.frozen?_of_block (w:=w) (hk.block g hl)];exact h.thaw g hg o
 ·exact hk.thaw g hl o
theorem bel_alloc(w:World)(cs:Array Value)(t:TypeId):Bel w.heap.size w (w.alloc (.cells cs t)):=by
 refine⟨(Below.refl _ _).alloc (Nat.le_refl _) _,fun g hg o=>?_⟩;by_cases e:g=w.heap.size
 ·subst e;unfold World.frozen?;simp only[heap_alloc_new];simp
 ·exact frozen_out (by simp;omega) o
def Blk(w:World)(g:Nat)(t:TypeId)(cs:List Value):Prop:=w.heap[g]?=some (.cells cs.toArray t (0,0))
def setB(w:World)(g:Nat)(o:Obj):World:={w with heap:=w.heap.setIfInBounds g o }
section
variable {w w':World} {g:Nat} {t:TypeId} {cs:List Value}
theorem Blk.lt(h:Blk w g t cs):g < w.heap.size:=lt_of_get h
theorem Blk.cell(h:Blk w g t cs)(i:Nat):w.cell? ⟨g,i,none⟩=cs[i]?:=by
 unfold Blk at h;simp[World.cell?,h]
theorem Blk.lies(h:Blk w g t cs):Lies w g 0 cs:=by
 intro j u hu;rw[Nat.zero_add,h.cell,hu]
theorem Blk.frozen(h:Blk w g t cs)(i:Nat):w.frozen? ⟨g,i,none⟩=false:=by
 unfold Blk at h;simp[World.frozen?,h]
theorem Blk.new(w:World)(t:TypeId)(cs:List Value):Blk (w.alloc (.cells cs.toArray t)) w.heap.size t cs:=by
 unfold Blk;exact heap_alloc_new w _
theorem Blk.keep(h:Blk w g t cs)(hk:w'.heap[g]?=w.heap[g]?):Blk w' g t cs:=hk.trans h
theorem Blk.alloc(h:Blk w g t cs)(o:Obj):Blk (w.alloc o) g t cs:=h.keep (Below.heap_alloc w o g h.lt)
theorem heap_setB(w:World)(g:Nat)(o:Obj)(k:Nat)(h:k≠g):(setB w g o).heap[k]?=w.heap[k]?:=by
 simp[setB,Array.getElem?_setIfInBounds_ne (Ne.symm h)]
theorem size_setB(w:World)(g:Nat)(o:Obj):(setB w g o).heap.size=w.heap.size:=by simp[setB]
theorem Blk.setSame(h:Blk w g t cs)(t':TypeId)(cs':List Value):Blk (setB w g (.cells cs'.toArray t' (0,0))) g t' cs':=by
 unfold Blk setB;simp[h.lt]
theorem setCell_blk(h:Blk w g t cs)(i:Nat)(v:Value):w.setCell ⟨g,i,none⟩ v=setB w g (.cells (cs.set i v).toArray t (0,0)):=by
 unfold World.setCell setB
 congr 1
 apply Array.ext
 ·simp
 ·intro k h1 h2;simp only[Array.size_modify]at h1;simp only[Array.getElem_modify];split
  ·rename_i e;subst e;have hg:w.heap[g]'h1=.cells cs.toArray t (0,0):=by
    have:=h;unfold Blk at this;rw[Array.getElem?_eq_getElem h1]at this;exact Option.some.inj this
   rw[hg];simp
  ·rename_i e;rw[Array.getElem_setIfInBounds_ne _ e]
end
theorem Blk.drew{w:World}{g:Nat}{t:TypeId}{cs:List Value}(h:Blk w g t cs):Blk w.drew g t cs:=h
theorem size_alloc(w:World)(o:Obj):(w.alloc o).heap.size=w.heap.size+1:=by simp
end
section
open Go.RowKit
abbrev Fm:=Nat→Value
def upd(f:Fm)(d:Nat)(v:Value):Fm:=fun i=>cond (Nat.beq i d) v (f i)
def fr(f:Fm)(N:Nat):Act:=⟨Array.ofFn (fun i:Fin N=>f i.val),[]⟩
theorem fr_put(f:Fm)(N d:Nat)(v:Value):(fr f N).put (some d) v=fr (upd f d v) N:=by
 have e:(Array.ofFn (fun i:Fin N=>f i.val)).setIfInBounds d v=Array.ofFn (fun i:Fin N=>upd f d v i.val):=by
  apply Array.ext
  ·simp
  ·intro i h1 h2;simp only[Array.size_ofFn]at h2;rw[Array.getElem_setIfInBounds (by simpa using h2)];simp only[Array.getElem_ofFn,upd];by_cases h:d=i
   ·subst h;simp
   ·have h':Nat.beq i d=false:=by
     cases hb:Nat.beq i d
     ·rfl
     ·exact absurd (Nat.eq_of_beq_eq_true hb).symm h
    simp[h,h']
 exact congrArg (fun t=>Act.mk t []) e
theorem fr_eval(f:Fm){N d:Nat}(hd:d < N):(fr f N).eval (.tmp d)=f d:=by
 simp[fr,Act.eval,hd]
theorem et{f:Fm}{N d:Nat}{v:Value}(h:f d=v)(hd:Nat.blt d N=true:=by rfl):(fr f N).eval (.tmp d)=v:=by
 rw[fr_eval f (by simpa using hd)];exact h
theorem ec{f:Fm}{N:Nat}{v:Value}:(fr f N).eval (.const v)=v:=rfl
def pst(N:Nat)(Kn:Fm→World→Prop)(Ke:Nat→Fm→World→Prop)(Kr:Fm→World→Prop):Exit→Act→World→Prop
 | .normal,a,w=>∃f,a=fr f N∧Kn f w
 | .exit id,a,w=>∃f,a=fr f N∧Ke id f w
 | .ret,a,w=>∃f,a=fr f N∧Kr f w
 |_,_,_=>False
def W(P:Program)(N:Nat)(c:Code)(Kn:Fm→World→Prop)(Ke:Nat→Fm→World→Prop)(Kr:Fm→World→Prop)(f:Fm)(w:World):Prop:=
 c.wp P (pst N Kn Ke Kr) (fr f N) w
def Ls(P:Program)(N:Nat)(ops:Array Oper)(Kn:Fm→World→Prop)(rest:List Oper)(f:Fm)(w:World):Prop:=
 wpList P ops (pst N Kn (fun _ _ _=>False) (fun _ _=>False)) rest (fr f N) w
def Wants(N:Nat)(ops:Array Oper)(f:Fm)(g:Option (Nat×Bool)):Prop:=
 Region.wanted {(default:Oper) with guard:=g } (yielded ops (fr f N).tmps)=true
theorem wn{N:Nat}{ops:Array Oper}{f:Fm}:Wants N ops f none:=rfl
theorem yielded_fr{N:Nat}{ops:Array Oper}{f:Fm}{j dj:Nat}(hj:(ops[j]?).bind (·.dst)=some dj)(hd:Nat.blt dj N=true)(b:Bool)(hb:f dj=.bool b):yielded ops (fr f N).tmps j=some b:=by
 have hlt:dj < N:=by simpa using hd
 simp[yielded,hj,fr,hlt,hb]
theorem yielded_un{N:Nat}{ops:Array Oper}{f:Fm}{j dj:Nat}(hj:(ops[j]?).bind (·.dst)=some dj)(hd:Nat.blt dj N=true)(hb:f dj=undef):yielded ops (fr f N).tmps j=none:=by
 have hlt:dj < N:=by simpa using hd
 simp[yielded,hj,fr,hlt,hb,undef]
theorem wy{N:Nat}{ops:Array Oper}{f:Fm}{j dj:Nat}{want:Bool}(hb:f dj=.bool want)(hj:(ops[j]?).bind (·.dst)=some dj:=by rfl)(hd:Nat.blt dj N=true:=by rfl):Wants N ops f (some (j,want)):=by
 simp[Wants,Region.wanted,yielded_fr hj hd want hb]
theorem Wants.to{N:Nat}{ops:Array Oper}{f:Fm}{gd:Option (Nat×Bool)}(h:Wants N ops f gd)(dst:Option Tmp)(op:Op)(ty:TypeId)(pos:String)(aft:Array Edge):Region.wanted ⟨dst,op,ty,pos,aft,gd⟩ (yielded ops (fr f N).tmps)=true:=h
def Wantsnt(N:Nat)(ops:Array Oper)(f:Fm)(g:Option (Nat×Bool)):Prop:=
 Region.wanted {(default:Oper) with guard:=g } (yielded ops (fr f N).tmps)=false
theorem Wantsnt.to{N:Nat}{ops:Array Oper}{f:Fm}{gd:Option (Nat×Bool)}(h:Wantsnt N ops f gd)(dst:Option Tmp)(op:Op)(ty:TypeId)(pos:String)(aft:Array Edge):¬Region.wanted ⟨dst,op,ty,pos,aft,gd⟩ (yielded ops (fr f N).tmps)=true:=by
 have h':Region.wanted ⟨dst,op,ty,pos,aft,gd⟩ (yielded ops (fr f N).tmps)=false:=h;rw[h'];simp
theorem wx{N:Nat}{ops:Array Oper}{f:Fm}{j dj:Nat}{want:Bool}(hb:f dj=.bool (!want))(hj:(ops[j]?).bind (·.dst)=some dj:=by rfl)(hd:Nat.blt dj N=true:=by rfl):Wantsnt N ops f (some (j,want)):=by
 simp[Wantsnt,Region.wanted,yielded_fr hj hd _ hb]
theorem wu{N:Nat}{ops:Array Oper}{f:Fm}{j dj:Nat}{want:Bool}(hb:f dj=undef)(hj:(ops[j]?).bind (·.dst)=some dj:=by rfl)(hd:Nat.blt dj N=true:=by rfl):Wantsnt N ops f (some (j,want)):=by
 simp[Wantsnt,Region.wanted,yielded_un hj hd hb]
section rules
variable {P:Program} {N:Nat} {Kn:Fm→World→Prop} {Ke:Nat→Fm→World→Prop} {Kr:Fm→World→Prop} {f:Fm} {w:World}
theorem w_seq{x y:Code}(h:W P N x (fun f w=>W P N y Kn Ke Kr f w) Ke Kr f w):W P N (.seq x y) Kn Ke Kr f w:=by
 refine wp_seq (wp_mono h ?_);intro e a w hq;cases e with
 |normal=>obtain⟨f',rfl,hk⟩:=hq;exact hk
 |exit id=>exact hq
 |ret=>exact hq
 |goto l=>exact hq.elim
 |panic c=>exact hq.elim
 |outgrown=>exact hq.elim
theorem w_skip(h:Kn f w):W P N .skip Kn Ke Kr f w:=wp_skip ⟨f,rfl,h⟩
theorem w_ret(h:Kr f w):W P N .ret Kn Ke Kr f w:=wp_ret ⟨f,rfl,h⟩
theorem w_exit{id:Nat}(h:Ke id f w):W P N (.exit id) Kn Ke Kr f w:=wp_exit ⟨f,rfl,h⟩
theorem w_if_t{c:Operand}{x y:Code}(hc:(fr f N).eval c=.bool true)(h:W P N x Kn Ke Kr f w):W P N (.cond c x y) Kn Ke Kr f w:=wp_cond hc h
theorem w_if_f{c:Operand}{x y:Code}(hc:(fr f N).eval c=.bool false)(h:W P N y Kn Ke Kr f w):W P N (.cond c x y) Kn Ke Kr f w:=wp_cond hc h
theorem w_block{id:Nat}{c:Code}(h:W P N c Kn (fun id' f w=>if id'=id then Kn f w else Ke id' f w) Kr f w):W P N (.block id c) Kn Ke Kr f w:=by
 refine wp_block (wp_mono h ?_);intro e a w hq;cases e with
 |normal=>exact hq
 |ret=>exact hq
 |exit id'=>
  obtain⟨f',rfl,hk⟩:=hq;simp only[Exit.inBlock]
  split at hk
  ·rename_i he;rw[if_pos he];exact⟨f',rfl,hk⟩
  ·rename_i he;rw[if_neg he];exact⟨f',rfl,hk⟩
 |goto l=>exact hq.elim
 |panic c=>exact hq.elim
 |outgrown=>exact hq.elim
theorem w_loop{c:Code}(I:Nat→Fm→World→Prop)(n0:Nat)(h0:I n0 f w)
  (round:∀n f w,I n f w→W P N c (fun f' w'=>∃n',n' < n∧I n' f' w') Ke Kr f w):W P N (.loop c) Kn Ke Kr f w:=by
 refine wp_loop_ghost (fun n a w=>∃f,a=fr f N∧I n f w) n0 ⟨f,rfl,h0⟩ ?_
 rintro n a w ⟨f,rfl,hI⟩
 refine wp_mono (round n f w hI) ?_;intro e a w hq;cases e with
 |normal=>obtain⟨f',rfl,n',hn,hI'⟩:=hq;exact⟨n',hn,f',rfl,hI'⟩
 |exit id=>exact hq
 |ret=>exact hq
 |goto l=>exact hq.elim
 |panic c=>exact hq.elim
 |outgrown=>exact hq.elim
theorem w_region{id:Nat}{l:List Oper}(h:Ls P N l.toArray Kn l f w):W P N (.region id l.toArray false) Kn Ke Kr f w:=by
 refine wp_mono (wp_region_lit h) ?_;intro e a w hq;cases e with
 |normal=>exact hq
 |exit id=>obtain⟨_,_,h⟩:=hq;exact h.elim
 |ret=>obtain⟨_,_,h⟩:=hq;exact h.elim
 |goto l=>exact hq.elim
 |panic c=>exact hq.elim
 |outgrown=>exact hq.elim
theorem w_mono{c:Code}{Kn':Fm→World→Prop}{Ke':Nat→Fm→World→Prop}{Kr':Fm→World→Prop}(h:W P N c Kn Ke Kr f w)
  (hn:∀f w,Kn f w→Kn' f w) (he:∀i f w,Ke i f w→Ke' i f w) (hr:∀f w,Kr f w→Kr' f w):W P N c Kn' Ke' Kr' f w:=by
 refine wp_mono h ?_;intro e a w hq;cases e with
 |normal=>obtain⟨f',h1,h2⟩:=hq;exact⟨f',h1,hn _ _ h2⟩
 |exit id=>obtain⟨f',h1,h2⟩:=hq;exact⟨f',h1,he _ _ _ h2⟩
 |ret=>obtain⟨f',h1,h2⟩:=hq;exact⟨f',h1,hr _ _ h2⟩
 |goto l=>exact hq.elim
 |panic c=>exact hq.elim
 |outgrown=>exact hq.elim
variable {ops:Array Oper} {rest:List Oper} {d:Nat} {op:Op} {ty:TypeId} {pos:String} {aft:Array Edge} {gd:Option (Nat×Bool)}
theorem l_nil(h:Kn f w):Ls P N ops Kn [] f w:=⟨f,rfl,h⟩
theorem l_pass(hg:Wantsnt N ops f gd)(h:Ls P N ops Kn rest (upd f d undef) w):Ls P N ops Kn (⟨some d,op,ty,pos,aft,gd⟩::rest) f w:=by
 unfold Ls wpList;rw[if_neg (hg.to _ _ _ _ _),fr_put];exact h
theorem l_pass0(hg:Wantsnt N ops f gd)(h:Ls P N ops Kn rest f w):Ls P N ops Kn (⟨none,op,ty,pos,aft,gd⟩::rest) f w:=by
 unfold Ls wpList;rw[if_neg (hg.to _ _ _ _ _)];exact h
theorem enter{g:FuncId}{fn:Func}{c:Code}{args:Array Value}{R:Ending→World→Prop}(hf:P.funcs[g]?=some fn)(hb:fn.body=some c)(hN:fn.ntmps=N)(ha:Nat.ble args.size N=true)
  (h:W P N c (fun f w=>∃v,(results fn (fr f N).tmps).run P w=.ok v w∧R (.returned v) w) (fun _ _ _=>False) (fun f w=>∃v,(results fn (fr f N).tmps).run P w=.ok v w∧R (.returned v) w) (fun i=>args.getD i undef) w) :
  Calls P g args w R:=by
 refine calls_of_wp hf hb ?_;have e:({tmps:=args++Array.replicate (fn.ntmps - args.size) undef,defers:=[] }:Act)=fr (fun i=>args.getD i undef) N:=by
  unfold fr
  congr 1
  have ha':args.size≤N:=by simpa using ha
  apply Array.ext
  ·simp[hN];omega
  ·intro i h1 h2;simp only[Array.getElem_ofFn,Array.getElem_append]
   split<;>simp_all
 rw[e];refine wp_mono h ?_;intro e a w hq;cases e with
 |normal=>obtain⟨f',rfl,v,h1,h2⟩:=hq;exact⟨rfl,v,h1,h2⟩
 |exit id=>obtain⟨_,_,h⟩:=hq;exact h.elim
 |ret=>obtain⟨f',rfl,v,h1,h2⟩:=hq;exact⟨rfl,v,h1,h2⟩
 |goto l=>exact hq.elim
 |panic c=>exact hq.elim
 |outgrown=>exact hq.elim
end rules
section drawn
variable {P:Program} {N:Nat} {Kn:Fm→World→Prop} {Ke:Nat→Fm→World→Prop} {Kr:Fm→World→Prop} {f:Fm} {w:World} {ops:Array Oper} {S:World→Prop}
def chk(ops:Array Oper):List (Nat×Bool)→Array Bool→Bool
 |[],listed=>(Region.ready .any ops listed).isEmpty
 |(i,quiet)::s,listed=>(Region.ready .any ops listed).contains i && (if quiet then Region.free .any ops listed i else Region.ready .any ops listed ==[i]) && chk ops s (listed.setIfInBounds i true)
def Dw(P:Program)(N:Nat)(ops:Array Oper)(S:World→Prop)(Kn:Fm→World→Prop):List (Nat×Bool)→Fm→World→Prop
 |[],f,w=>Kn f w
 |(i,quiet)::s,f,w=>if quiet then
   ∃o v f',ops[i]?=some o∧YieldsIf P ops S o v (fr f N)∧(fr f N).put o.dst v=fr f' N∧S w∧Dw P N ops S Kn s f' w
  else wpOp P ops (pst N Kn (fun _ _ _=>False) (fun _ _=>False)) i (fun a' w'=>S w'∧∃f',a'=fr f' N∧Dw P N ops S Kn s f' w') (fr f N) w
theorem dw_sound(hs:Region.noSelect ops=true):∀(s:List (Nat×Bool)) (listed:Array Bool) (f:Fm) (w:World),chk ops s listed=true→Dw P N ops S Kn s f w→
  wpAnyH P .any ops (pst N Kn (fun _ _ _=>False) (fun _ _=>False)) S s.length listed (fr f N) w
 |[],listed,f,w,hc,h=>by
  refine wpAnyH_done ?_ ⟨f,rfl,h⟩ _
  simpa [chk] using hc
 |(i,true)::s,listed,f,w,hc,h=>by
  simp only[chk,Bool.and_eq_true,if_true]at hc;obtain⟨⟨hr,hf⟩,hc'⟩:=hc;simp only[Dw,if_true]at h;obtain⟨o,v,f',ho,hy,hp,hS,hd⟩:=h;refine wpAnyH_take ho hs hf hr (fun c a w hq=>hq.elim) hy hS ?_;rw[hp];exact dw_sound hs s _ f' w hc' hd
 |(i,false)::s,listed,f,w,hc,h=>by
  simp only[chk,Bool.and_eq_true,Bool.false_eq_true,if_false,beq_iff_eq]at hc;obtain⟨⟨_,hr⟩,hc'⟩:=hc;simp only[Dw,Bool.false_eq_true,if_false]at h;refine wpAnyH_all hr (by simp) ?_;intro j hj;simp only[List.mem_singleton]at hj;subst hj;refine wpOp_mono ?_ h
  rintro a' w' ⟨hS,f',rfl,hd⟩
  exact⟨hS,dw_sound hs s _ f' w' hc' hd⟩
variable {s:List (Nat×Bool)} {i d:Nat} {op:Op} {ty:TypeId} {pos:String} {aft:Array Edge} {gd:Option (Nat×Bool)}
end drawn
section ops
variable {P:Program} {ρ:Operand→Value} {w:World} {dst:Option Tmp} {ty:TypeId} {pos:String} {aft:Array Edge} {gd:Option (Nat×Bool)}
theorem x_move{x:Operand}{v:Value}(hx:ρ x=v):(execOp ρ ⟨dst,.move x,ty,pos,aft,gd⟩).run P w=.ok (.value v) w:=by
 subst hx;rfl
theorem x_assign{x:Operand}{v:Value}(hx:ρ x=v):(execOp ρ ⟨dst,.assign x,ty,pos,aft,gd⟩).run P w=.ok (.value v) w:=by
 subst hx;rfl
theorem x_pick_t{c x y:Operand}{v:Value}(hc:ρ c=.bool true)(hx:ρ x=v):(execOp ρ ⟨dst,.pick c x y,ty,pos,aft,gd⟩).run P w=.ok (.value v) w:=by
 simp[execOp,hc,hx,asBool]
theorem x_pick_f{c x y:Operand}{v:Value}(hc:ρ c=.bool false)(hy:ρ y=v):(execOp ρ ⟨dst,.pick c x y,ty,pos,aft,gd⟩).run P w=.ok (.value v) w:=by
 simp[execOp,hc,hy,asBool]
theorem x_not{x:Operand}{b:Bool}{T:TypeId}(hx:ρ x=.bool b):(execOp ρ ⟨dst,.unOp .not T x,ty,pos,aft,gd⟩).run P w=.ok (.value (.bool (!b))) w:=by
 simp[execOp,hx,Op.unary]
theorem beq_dec(a b:Int):(a ==b)=decide (a=b):=by
 by_cases h:a=b<;>simp[h]
section int
variable {x y:Operand} {a b:Int} {T T':TypeId} {ik:IntKind}
theorem x_lss{r:Bool}(hx:ρ x=.int ik a)(hy:ρ y=.int ik b)(hr:decide (a < b)=r):(execOp ρ ⟨dst,.binOp .lss T x y T',ty,pos,aft,gd⟩).run P w=.ok (.value (.bool r)) w:=by
 subst hr;simp[execOp,hx,hy,binOp,Op.intCmp,eqGuard]
theorem x_leq{r:Bool}(hx:ρ x=.int ik a)(hy:ρ y=.int ik b)(hr:decide (a≤b)=r):(execOp ρ ⟨dst,.binOp .leq T x y T',ty,pos,aft,gd⟩).run P w=.ok (.value (.bool r)) w:=by
 subst hr;simp[execOp,hx,hy,binOp,Op.intCmp,eqGuard]
theorem x_gtr{r:Bool}(hx:ρ x=.int ik a)(hy:ρ y=.int ik b)(hr:decide (b < a)=r):(execOp ρ ⟨dst,.binOp .gtr T x y T',ty,pos,aft,gd⟩).run P w=.ok (.value (.bool r)) w:=by
 subst hr;simp[execOp,hx,hy,binOp,Op.intCmp,eqGuard]
theorem x_geq{r:Bool}(hx:ρ x=.int ik a)(hy:ρ y=.int ik b)(hr:decide (b≤a)=r):(execOp ρ ⟨dst,.binOp .geq T x y T',ty,pos,aft,gd⟩).run P w=.ok (.value (.bool r)) w:=by
 subst hr;simp[execOp,hx,hy,binOp,Op.intCmp,eqGuard]
theorem x_eql{r:Bool}(hx:ρ x=.int ik a)(hy:ρ y=.int ik b)(hr:decide (a=b)=r):(execOp ρ ⟨dst,.binOp .eql T x y T',ty,pos,aft,gd⟩).run P w=.ok (.value (.bool r)) w:=by
 subst hr;simp[execOp,hx,hy,binOp,Op.intCmp,eqGuard];exact beq_dec a b
theorem x_neq{r:Bool}(hx:ρ x=.int ik a)(hy:ρ y=.int ik b)(hr:decide (a=b)=!r):(execOp ρ ⟨dst,.binOp .neq T x y T',ty,pos,aft,gd⟩).run P w=.ok (.value (.bool r)) w:=by
 have:r=!decide (a=b):=by rw[hr];simp
 subst this;simp[execOp,hx,hy,binOp,Op.intCmp,eqGuard,bne];exact beq_dec a b
theorem x_add(hx:ρ x=.int .i64 a)(hy:ρ y=.int .i64 b)(hr:-9223372036854775808≤a+b∧a+b≤9223372036854775807):(execOp ρ ⟨dst,.binOp .add T x y T',ty,pos,aft,gd⟩).run P w=.ok (.value (.int .i64 (a+b))) w:=by
 simp[execOp,hx,hy,binOp,Op.intArith,eqGuard];exact IntWalk.i64_in _ (by omega)
end int
theorem toList_eq_iff(a b:ByteArray):(a.toList ==b.toList)=decide (a=b):=by
 rw[Bool.eq_iff_iff];simp only[beq_iff_eq,decide_eq_true_eq,ByteArray.toList_eq]
 constructor
 ·intro h;cases a;cases b;simp at h;simp[h]
 ·rintro rfl;rfl
section str
variable {x y:Operand} {a b:ByteArray} {T T':TypeId}
theorem x_seql{r:Bool}(hx:ρ x=.string a)(hy:ρ y=.string b)(hr:decide (a=b)=r):(execOp ρ ⟨dst,.binOp .eql T x y T',ty,pos,aft,gd⟩).run P w=.ok (.value (.bool r)) w:=by
 subst hr;simp[execOp,hx,hy,binOp,Op.stringOp,eqGuard,toList_eq_iff]
theorem x_sneq{r:Bool}(hx:ρ x=.string a)(hy:ρ y=.string b)(hr:decide (a=b)=!r):(execOp ρ ⟨dst,.binOp .neq T x y T',ty,pos,aft,gd⟩).run P w=.ok (.value (.bool r)) w:=by
 have:r=!decide (a=b):=by rw[hr];simp
 subst this;simp[execOp,hx,hy,binOp,Op.stringOp,eqGuard,toList_eq_iff]
end str
section bools
variable {x y:Operand} {a b:Bool} {T T':TypeId}
theorem x_beql{r:Bool}(hT:P.underlying T=some .bool)(hx:ρ x=.bool a)(hy:ρ y=.bool b)(hr:decide (a=b)=r):(execOp ρ ⟨dst,.binOp .eql T x y T',ty,pos,aft,gd⟩).run P w=.ok (.value (.bool r)) w:=by
 have e:(a ==b)=r:=by subst hr;cases a<;>cases b<;>rfl
 simp[execOp,hx,hy,eqGuard,run_eql_bool w T a b hT,e]
theorem x_bneq{r:Bool}(hT:P.underlying T=some .bool)(hx:ρ x=.bool a)(hy:ρ y=.bool b)(hr:decide (a=b)=!r):(execOp ρ ⟨dst,.binOp .neq T x y T',ty,pos,aft,gd⟩).run P w=.ok (.value (.bool r)) w:=by
 have e:(a ==b)=!r:=by cases a<;>cases b<;>cases r<;>simp_all
 simp[execOp,hx,hy,eqGuard,run_neq_bool w T a b hT,e]
end bools
theorem x_len{x:Operand}{A:Option Addr}{n c:Nat}{T E:TypeId}(hU:P.underlying T=some (.slice E))(hx:ρ x=.slice A n c) :
  (execOp ρ ⟨dst,.call {callee:=.builtin .len,args:=#[x],argTypes:=#[T] },ty,pos,aft,gd⟩).run P w=.ok (.value (.int .i64 n)) w:=by
 simp[execOp,resolve,invoke,builtin,Builtin.len_,hx,run_underlying hU,goInt]
theorem x_slen{x:Operand}{s:ByteArray}{T:TypeId}(hU:P.underlying T=some .string)(hx:ρ x=.string s) :
  (execOp ρ ⟨dst,.call {callee:=.builtin .len,args:=#[x],argTypes:=#[T] },ty,pos,aft,gd⟩).run P w=.ok (.value (.int .i64 s.size)) w:=by
 simp[execOp,resolve,invoke,builtin,Builtin.len_,hx,run_underlying hU,goInt]
theorem x_index{x y:Operand}{b o n c:Nat}{i:Nat}{a:Int}{T E:TypeId}{k:Nat}(hU:P.underlying T=some (.slice E))(hS:∀w,(Go.sizeOf E).run P w=.ok k w)(hx:ρ x=.slice (some ⟨b,o,none⟩) n c)(hy:ρ y=.int .i64 a)(ha:a=(i:Int))(hi:i < n) :
  (execOp ρ ⟨dst,.indexAddr T x y,ty,pos,aft,gd⟩).run P w=.ok (.value (.pointer (some ⟨b,o+i * k,none⟩))) w:=by
 subst ha;have h0:(0:Int)≤(i:Int)∧(i:Int) < (n:Int):=by omega
 simp[execOp,Instr.indexAt,hx,hy,asIntOf,run_underlying hU,hS,add_mk,hi]
def bAt(s:ByteArray)(i:Nat):Int:=((s[i]?.getD 0).toNat:Int)
theorem bAt_bd(s:ByteArray)(i:Nat):0≤bAt s i∧bAt s i≤255:=by
 unfold bAt;have:=(s[i]?.getD 0).toNat_lt;omega
theorem x_sindex{x y:Operand}{s:ByteArray}{i:Nat}{a:Int}{T:TypeId}(hU:P.underlying T=some .string)(hx:ρ x=.string s)(hy:ρ y=.int .i64 a)(ha:a=(i:Int))(hi:i < s.size) :
  (execOp ρ ⟨dst,.index T x y,ty,pos,aft,gd⟩).run P w=.ok (.value (.int .u8 (bAt s i))) w:=by
 subst ha;simp[execOp,Instr.index,hx,hy,asIntOf,run_underlying hU,bAt,hi]
theorem x_field{x:Operand}{b o j k:Nat}{T:TypeId}{fs:Array Field}{i:Nat}{fd:Field}(hU:P.underlying T=some (.struct fs))(hF:fs[i]?=some fd)(hS:∀w,(Go.sizeOf fd.type).run P w=.ok (k+1) w)(hj:fd.offset=j)(hx:ρ x=.pointer (some ⟨b,o,none⟩)) :
  (execOp ρ ⟨dst,.fieldAddr T x i,ty,pos,aft,gd⟩).run P w=.ok (.value (.pointer (some ⟨b,o+j,none⟩))) w:=by
 subst hj;simp[execOp,Instr.fieldAt,hx,Instr.sureAddr,run_underlying hU,hF,fieldPlace,hS,add_mk]
theorem x_slice_hi{x y:Operand}{A:Option Addr}{n c h:Nat}{a:Int}{T E:TypeId}{k:Nat}(hU:P.underlying T=some (.slice E))(hS:∀w,(Go.sizeOf E).run P w=.ok k w)(hx:ρ x=.slice A n c)(hy:ρ y=.int .i64 a)(ha:a=(h:Int))(hh:h≤c) :
  (execOp ρ ⟨dst,.slice T x none (some y) none,ty,pos,aft,gd⟩).run P w=.ok (.value (.slice A h c)) w:=by
 subst ha;have e:A.map (fun z=>z.add 0)=A:=by cases A<;>simp[Addr.add]
 simp[execOp,Instr.sliceAt,Instr.slice,Instr.sliceBounds,Instr.sliceBound,hx,hy,asIntOf,run_underlying hU,hS,hh,e]
def Bnd(ρ:Operand→Value):Option Operand→Nat→Nat→Prop
 |none,z,m=>m=z
 |some y,_,m=>ρ y=.int .i64 (m:Int)
theorem x_slice2{x:Operand}{lo hi:Option Operand}{A:Option Addr}{n c l h:Nat}{T E:TypeId}{k:Nat}(hU:P.underlying T=some (.slice E))(hS:∀w,(Go.sizeOf E).run P w=.ok k w)(hx:ρ x=.slice A n c)(hl:Bnd ρ lo 0 l)(hh:Bnd ρ hi n h)(h1:l≤h)(h2:h≤c) :
  (execOp ρ ⟨dst,.slice T x lo hi none,ty,pos,aft,gd⟩).run P w=.ok (.value (.slice (if c=l then A else A.map (fun z=>z.add (l * k))) (h - l) (c - l))) w:=by
 cases lo with
 |none=>
  cases hi with
  |none=>simp only[Bnd]at hl hh;subst hl hh;simp[execOp,Instr.sliceAt,Instr.slice,Instr.sliceBounds,hx,run_underlying hU,hS]
  |some z=>simp only[Bnd]at hl hh;subst hl;simp[execOp,Instr.sliceAt,Instr.slice,Instr.sliceBounds,Instr.sliceBound,hx,hh,asIntOf,run_underlying hU,hS,h2]
 |some y=>
  cases hi with
  |none=>simp only[Bnd]at hl hh;subst hh;simp[execOp,Instr.sliceAt,Instr.slice,Instr.sliceBounds,Instr.sliceBound,hx,hl,asIntOf,run_underlying hU,hS,h1]
  |some z=>simp only[Bnd]at hl hh;simp[execOp,Instr.sliceAt,Instr.slice,Instr.sliceBounds,Instr.sliceBound,hx,hl,hh,asIntOf,run_underlying hU,hS,h1,h2]
theorem x_sslice{x:Operand}{lo hi:Option Operand}{t:ByteArray}{l h:Nat}{T:TypeId}(hU:P.underlying T=some .string)(hx:ρ x=.string t)(hl:Bnd ρ lo 0 l)(hh:Bnd ρ hi t.size h)(h1:l≤h)(h2:h≤t.size) :
  (execOp ρ ⟨dst,.slice T x lo hi none,ty,pos,aft,gd⟩).run P w=.ok (.value (.string (t.extract l h))) w:=by
 cases lo with
 |none=>
  cases hi with
  |none=>simp only[Bnd]at hl hh;subst hl hh;simp[execOp,Instr.sliceAt,Instr.slice,Instr.sliceBounds,hx,run_underlying hU]
  |some z=>simp only[Bnd]at hl hh;subst hl;simp[execOp,Instr.sliceAt,Instr.slice,Instr.sliceBounds,Instr.sliceBound,hx,hh,asIntOf,run_underlying hU,h2]
 |some y=>
  cases hi with
  |none=>simp only[Bnd]at hl hh;subst hh;simp[execOp,Instr.sliceAt,Instr.slice,Instr.sliceBounds,Instr.sliceBound,hx,hl,asIntOf,run_underlying hU,h1]
  |some z=>simp only[Bnd]at hl hh;simp[execOp,Instr.sliceAt,Instr.slice,Instr.sliceBounds,Instr.sliceBound,hx,hl,hh,asIntOf,run_underlying hU,h1,h2]
theorem x_load{x:Operand}{b o:Nat}{T:TypeId}{v:Value}(hA:∀w,(isAgg T).run P w=.ok false w)(hx:ρ x=.pointer (some ⟨b,o,none⟩))(hc:w.cell? ⟨b,o,none⟩=some v) :
  (execOp ρ ⟨dst,.load T x,ty,pos,aft,gd⟩).run P w=.ok (.value v) w:=by
 simp[execOp,Instr.loadAt,hx,Instr.sureAddr,loadVar,hA,load,Sem.run,hc]
theorem run_loadCellsFrom{b o:Nat}:∀(cs:List Value) (i:Nat) (acc:Array Value),Lies w b (o+i) cs→(loadCellsFrom ⟨b,o,none⟩ i cs.length acc).run P w=.ok (acc++cs.toArray) w
 |[],i,acc,_=>by simp[loadCellsFrom]
 |c::cs,i,acc,h=>by
  have h0:=h 0 c (by simp);rw[Nat.add_zero]at h0;have ih:=run_loadCellsFrom cs (i+1) (acc.push c) (fun j u hu=>by
   have:=h (j+1) u (by simpa using hu);rw[show o+(i+1)+j=o+i+(j+1) from by omega];exact this)
  simp[loadCellsFrom,load,Sem.run,add_mk,h0,ih]
theorem x_loadN{x:Operand}{b o:Nat}{T:TypeId}{cs:List Value}{k:Nat}(hA:∀w,(isAgg T).run P w=.ok true w)(hS:∀w,(Go.sizeOf T).run P w=.ok k w)(hx:ρ x=.pointer (some ⟨b,o,none⟩))(hl:cs.length=k)(hc:Lies w b o cs) :
  (execOp ρ ⟨dst,.load T x,ty,pos,aft,gd⟩).run P w=.ok (.value (.agg cs.toArray)) w:=by
 subst hl;have h:=run_loadCellsFrom (P:=P) (w:=w) (b:=b) (o:=o) cs 0 #[] (by simpa using hc);simp[execOp,Instr.loadAt,hx,Instr.sureAddr,loadVar,hA,hS,loadCells,h]
def one:Value→Bool
 | .agg _=>false
 | .tuple _=>false
 |_=>true
theorem run_store1{g i:Nat}{t:TypeId}{cs:List Value}{v:Value}{α:Type}(k:Sem α)(hb:Blk w g t cs)(hi:i < cs.length)(h1:one v=true) :
  (Sem.store .plain ⟨g,i,none⟩ v k).run P w=k.run P (setB w g (.cells (cs.set i v).toArray t (0,0))):=by
 have hc:w.cell? ⟨g,i,none⟩=some cs[i]:=by rw[hb.cell];simp[hi]
 have hf:=hb.frozen i;rw[← setCell_blk hb];cases v<;>simp_all[Sem.run,one]
theorem x_store{x y:Operand}{g o:Nat}{T t:TypeId}{cs:List Value}{v:Value}(hS:∀w,(Go.sizeOf T).run P w=.ok 1 w)(hx:ρ x=.pointer (some ⟨g,o,none⟩))(hy:ρ y=v)(h1:one v=true)(hb:Blk w g t cs)(hi:o < cs.length) :
  (execOp ρ ⟨dst,.store T x y,ty,pos,aft,gd⟩).run P w=.ok .skip (setB w g (.cells (cs.set o v).toArray t (0,0))):=by
 have hc:v.cells=#[v]:=by cases v<;>simp_all[Value.cells,one]
 simp[execOp,Instr.storeAt,hx,hy,Instr.sureAddr,storeVar,hS,hc,storeCells,store,Addr.add,run_store1 _ hb hi h1]
def splice(cs:List Value)(i:Nat)(vs:List Value):List Value:=cs.take i++vs++cs.drop (i+vs.length)
theorem setB_setB(w:World)(g:Nat)(o o':Obj):setB (setB w g o) g o'=setB w g o':=by
 simp[setB]
theorem splice_cons(cs:List Value)(i:Nat)(v:Value)(vs:List Value)(h:i+(vs.length+1)≤cs.length):splice (cs.set i v) (i+1) vs=splice cs i (v::vs):=by
 unfold splice
 apply List.ext_getElem?
 intro k;simp only[List.getElem?_append,List.length_append,List.length_take,List.length_set,List.length_cons,List.getElem?_take,List.getElem?_set,List.getElem?_drop,List.getElem?_cons]
 grind
theorem run_storeCells{g:Nat}{t:TypeId}{o:Nat}:∀(vs:List Value) (i:Nat) (w:World) (cs:List Value),Blk w g t cs→o+i+vs.length≤cs.length→(∀v∈vs,one v=true)→
  (storeCells ⟨g,o,none⟩ vs i).run P w=.ok () (setB w g (.cells (splice cs (o+i) vs).toArray t (0,0)))
 |[],i,w,cs,hb,_,_=>by
  have:setB w g (.cells (splice cs (o+i) []).toArray t (0,0))=w:=by
   have h2:=hb;unfold Blk at h2;simp only[splice,List.append_nil,List.length_nil,Nat.add_zero,List.take_append_drop];have hlt:=hb.lt;unfold setB;have:w.heap.setIfInBounds g (.cells cs.toArray t (0,0))=w.heap:=by
    apply Array.ext
    ·simp
    ·intro k h1 h3;rw[Array.getElem_setIfInBounds];split
     ·rename_i e;subst e;rw[Array.getElem?_eq_getElem h3]at h2;exact (Option.some.inj h2).symm
     ·rfl
   rw[this]
  simp[storeCells,this]
 |v::vs,i,w,cs,hb,hl,h1=>by
  simp only[List.length_cons]at hl;have hs:(cs.set (o+i) v).length=cs.length:=by simp
  have ih:=run_storeCells (o:=o) vs (i+1) (setB w g (.cells (cs.set (o+i) v).toArray t (0,0))) (cs.set (o+i) v) (hb.setSame t _) (by rw[hs];omega) (fun u hu=>h1 u (by simp[hu]));rw[setB_setB,show o+(i+1)=o+i+1 from by omega,splice_cons cs (o+i) v vs (by omega)]at ih;simp only[storeCells,store,add_mk];have h2:=run_store1 (P:=P) (Sem.pure ()) hb (show o+i < cs.length by omega) (h1 v (by simp));simp only[Sem.run_bind,h2,Sem.run,Result.andThen_ok];exact ih
theorem x_call{F:FuncId}{as:Array Operand}{ts:Array TypeId}{vs:Array Value}(hC:∀(args:Array Value) (w:World),(callFunc F args).run P w=.ok (.enter F args) w)(hF:ρ (.func F)=.func (.func F) #[] #[])(ha:as.map ρ=vs) :
  (execOp ρ ⟨dst,.call {callee:=.value (.func F),args:=as,argTypes:=ts },ty,pos,aft,gd⟩).run P w=.ok (.enter F vs) w:=by
 subst ha;simp[execOp,resolve,Deferred.ofValue,hF,invoke,hC]
theorem a1{x:Operand}{u:Value}(h:ρ x=u):(#[x]:Array Operand).map ρ=#[u]:=by simp[h]
theorem a2{x y:Operand}{u v:Value}(h:ρ x=u)(h':ρ y=v):(#[x,y]:Array Operand).map ρ=#[u,v]:=by simp[h,h']
theorem a3{x y z:Operand}{u v q:Value}(h:ρ x=u)(h':ρ y=v)(h2:ρ z=q):(#[x,y,z]:Array Operand).map ρ=#[u,v,q]:=by simp[h,h',h2]
theorem a4{x y z t:Operand}{u v q r:Value}(h:ρ x=u)(h':ρ y=v)(h2:ρ z=q)(h3:ρ t=r):(#[x,y,z,t]:Array Operand).map ρ=#[u,v,q,r]:=by simp[h,h',h2,h3]
theorem a5{x y z t s:Operand}{u v q r p:Value}(h:ρ x=u)(h':ρ y=v)(h2:ρ z=q)(h3:ρ t=r)(h4:ρ s=p):(#[x,y,z,t,s]:Array Operand).map ρ=#[u,v,q,r,p]:=by simp[h,h',h2,h3,h4]
theorem x_extract{x:Operand}{vs:Array Value}{i:Nat}{v:Value}(hx:ρ x=.tuple vs)(hi:vs[i]?=some v):(execOp ρ ⟨dst,.extract x i,ty,pos,aft,gd⟩).run P w=.ok (.value v) w:=by
 simp[execOp,Instr.extract,hx,hi]
end ops
theorem dec_t{p:Prop}[Decidable p](h:p):decide p=true:=by simp[h]
theorem dec_f{p:Prop}[Decidable p](h:¬p):decide p=false:=by simp[h]
theorem vint{k:IntKind}{a b:Int}(h:a=b):Value.int k a=Value.int k b:=by rw[h]
section rets
variable {P:Program} {N:Nat} {f:Fm} {w:World} {fn:Func}
theorem r_tmp{t:Tmp}{v:Value}(h:fn.results=#[.tmp t])(hv:f t=v)(ht:Nat.blt t N=true:=by rfl):(results fn (fr f N).tmps).run P w=.ok v w:=by
 have hlt:t < N:=by simpa using ht
 rw[results_tmp h];simp[fr,hlt,hv]
end rets
def Op1(P:Program)(N:Nat)(o:Oper)(f:Fm)(w:World)(K:Fm→World→Prop):Prop:=
 o.wp P (fr f N) w (fun a' w'=>∃f',a'=fr f' N∧K f' w') (fun _ _ _=>False)
structure Off (g:Nat) (w w':World):Prop where
 os:w'.os=w.os
 tape:w'.tape=w.tape
 output:w'.output=w.output
 size:w'.heap.size=w.heap.size
 block:∀k,k≠g→w'.heap[k]?=w.heap[k]?
 fz:∀o,w'.frozen? ⟨g,o,none⟩=false
theorem Off.setB(w:World)(g:Nat)(cs:Array Value)(t:TypeId):Off g w (setB w g (.cells cs t (0,0))):=by
 refine⟨rfl,rfl,rfl,size_setB w g _,fun k hk=>heap_setB w g _ k hk,fun o=>?_⟩;rcases Nat.lt_or_ge g w.heap.size with hl|hl
 ·simp[World.frozen?,Go.Proofs.YtcdjbelccndadaaGreatDoor.setB,hl]
 ·exact frozen_out (by rw[size_setB];exact hl) o
theorem Blk.off{w w':World}{g k:Nat}{t:TypeId}{cs:List Value}(h:Blk w g t cs)(ho:Off k w w')(hne:g≠k):Blk w' g t cs:=h.keep (ho.block g hne)
section
variable {P:Program} {N:Nat} {ops:Array Oper} {Kn:Fm→World→Prop} {rest:List Oper} {f:Fm} {w:World} {o:Oper} {S:World→Prop} {s:List (Nat×Bool)} {i:Nat} {K:Fm→World→Prop}
theorem Op1.toWp{Q:Exit→Act→World→Prop}{K':Act→World→Prop}(h:Op1 P N o f w K)(hK:∀f' w',K f' w'→K' (fr f' N) w'):o.wp P (fr f N) w K' Q:=by
 unfold Op1 Oper.wp at h;unfold Oper.wp;generalize (execOp (fr f N).eval o).run P w=r at *;cases r with
 |ok n w'=>
  cases n<;>simp only[Oper.upon]at h ⊢
  case value v=>obtain⟨f',e,hk⟩:=h;rw[e];exact hK _ _ hk
  case skip=>obtain⟨f',e,hk⟩:=h;rw[e];exact hK _ _ hk
  case defer d=>obtain⟨f',e,hk⟩:=h;rw[e];exact hK _ _ hk
  case enter g args=>
   refine Calls.mono h fun e w'' he=>?_;cases e with
   |returned v=>obtain⟨f',e,hk⟩:=he;show K' _ _;rw[e];exact hK _ _ hk
   |panicked c=>exact he.elim
   |outgrown=>obtain⟨_,_,h⟩:=he;exact h.elim
  case row r args=>exact Rows.mono h fun v w'' he=>by obtain⟨f',e,hk⟩:=he;rw[e];exact hK _ _ hk
 |halt x w'=>
  cases x<;>simp only[Oper.upon]at h
theorem l_op(hg:Wants N ops f o.guard)(h:Op1 P N o f w (fun f' w'=>Ls P N ops Kn rest f' w')):Ls P N ops Kn (o::rest) f w:=by
 unfold Ls wpList;rw[if_pos (show Region.wanted o _=true from hg)];exact .inl (h.toWp fun _ _ hk=>hk)
end
section
variable {P:Program} {N:Nat} {f:Fm} {w:World} {K:Fm→World→Prop} {d:Nat} {ty:TypeId} {pos:String} {aft:Array Edge} {gd:Option (Nat×Bool)}
theorem o_val{op:Op}{v:Value}(hr:(execOp (fr f N).eval ⟨some d,op,ty,pos,aft,gd⟩).run P w=.ok (.value v) w)(h:K (upd f d v) w):Op1 P N ⟨some d,op,ty,pos,aft,gd⟩ f w K:=by
 unfold Op1 Oper.wp;rw[hr,Oper.upon_value];exact⟨_,fr_put f N d v,h⟩
theorem o_val'{op:Op}{v:Value}{w':World}(hr:(execOp (fr f N).eval ⟨some d,op,ty,pos,aft,gd⟩).run P w=.ok (.value v) w')(h:K (upd f d v) w'):Op1 P N ⟨some d,op,ty,pos,aft,gd⟩ f w K:=by
 unfold Op1 Oper.wp;rw[hr,Oper.upon_value];exact⟨_,fr_put f N d v,h⟩
theorem o_skip{op:Op}{w':World}(hr:(execOp (fr f N).eval ⟨none,op,ty,pos,aft,gd⟩).run P w=.ok .skip w')(h:K f w'):Op1 P N ⟨none,op,ty,pos,aft,gd⟩ f w K:=by
 unfold Op1 Oper.wp;rw[hr,Oper.upon_skip];exact⟨_,rfl,h⟩
theorem o_call{op:Op}{g:FuncId}{args:Array Value}(hr:(execOp (fr f N).eval ⟨some d,op,ty,pos,aft,gd⟩).run P w=.ok (.enter g args) w){R:Ending→World→Prop}(hc:Calls P g args w R)
  (h:∀e w',R e w'→∃v,e=.returned v∧K (upd f d v) w'):Op1 P N ⟨some d,op,ty,pos,aft,gd⟩ f w K:=by
 unfold Op1 Oper.wp;rw[hr,Oper.upon_enter];refine hc.mono fun e w' he=>?_;obtain⟨v,rfl,hl⟩:=h e w' he;exact⟨_,fr_put f N d v,hl⟩
theorem o_new{op:Op}{T:TypeId}{cs:List Value}{v:Value}(hr:(execOp (fr f N).eval ⟨some d,op,ty,pos,aft,gd⟩).run P w=.ok (.value v) (w.alloc (.cells cs.toArray T)))
  (h:∀w1:World,w1.heap.size=w.heap.size+1→Bel w.heap.size w w1→Blk w1 w.heap.size T cs→K (upd f d v) w1):Op1 P N ⟨some d,op,ty,pos,aft,gd⟩ f w K:=
 o_val' hr (h _ (size_alloc _ _) (bel_alloc _ _ _) (Blk.new _ _ _))
end
attribute [irreducible] Op1 Ls W Dw
end
section
open Go.RowKit
inductive D where
 |int (k:IntKind) (n:Int)
 |bool (b:Bool)
 |str (s:ByteArray)
 |list (k:Nat) (fl:Bool) (es:List (List D))
instance:Inhabited D:=⟨.bool false⟩
def D.plain:D→Bool
 | .list _ _ _=>false
 |_=>true
def flat(es:List (List D)):Prop:=∀e∈es,∀x∈e,D.plain x=true
theorem flat_nil:flat []:=fun _ h=>by simp at h
abbrev Fp:=List (Nat×Nat)
mutual
def Rp(w:World):D→Value→Fp→Prop
 | .int k n,v,F=>v=.int k n∧F=[]∧k.wrap n=n
 | .bool b,v,F=>v=.bool b∧F=[]
 | .str s,v,F=>v=.string s∧F=[]∧s.size≤maxLen
 | .list k fl es,v,F=>∃A n c,v=.slice A n c∧n=es.length∧n≤c∧c≤maxLen∧(fl=true→flat es)∧0 < k∧(∀e∈es,e.length=k)∧
   ((n=0∧F=[])∨(0 < n∧∃b o xs G,A=some ⟨b,o,none⟩∧F=(b,o+n * k)::G∧RpE w es xs G∧Lies w b o xs))
def RpC(w:World):List D→List Value→Fp→Prop
 |[],vs,F=>vs=[]∧F=[]
 |d::ds,vs,F=>∃v vs' F1 F2,vs=v::vs'∧F=F1++F2∧Rp w d v F1∧RpC w ds vs' F2
def RpE(w:World):List (List D)→List Value→Fp→Prop
 |[],vs,F=>vs=[]∧F=[]
 |e::es,vs,F=>∃v1 v2 F1 F2,vs=v1++v2∧F=F1++F2∧RpC w e v1 F1∧RpE w es v2 F2
end
def Keeps(F:Fp)(w w':World):Prop:=∀be∈F,∀j,j < be.2→w'.cell? ⟨be.1,j,none⟩=w.cell? ⟨be.1,j,none⟩
theorem Keeps.left{F G:Fp}{w w':World}(h:Keeps (F++G) w w'):Keeps F w w':=fun be hb=>h be (by simp[hb])
theorem Keeps.right{F G:Fp}{w w':World}(h:Keeps (F++G) w w'):Keeps G w w':=fun be hb=>h be (by simp[hb])
theorem RpC.length{w:World}:∀(ds:List D) {vs:List Value} {F:Fp},RpC w ds vs F→vs.length=ds.length
 |[],_,_,h=>by simp only[RpC]at h;simp[h.1]
 |d::ds,_,_,h=>by
  simp only[RpC]at h;obtain⟨v,vs',F1,F2,rfl,_,_,h4⟩:=h;simp[RpC.length ds h4]
theorem RpE.length{w:World}{k:Nat}:∀(es:List (List D)) {vs:List Value} {F:Fp},RpE w es vs F→(∀e∈es,e.length=k)→vs.length=es.length * k
 |[],_,_,h,_=>by simp only[RpE]at h;simp[h.1]
 |e::es,_,_,h,hk=>by
  simp only[RpE]at h;obtain⟨v1,v2,F1,F2,rfl,_,h3,h4⟩:=h;simp only[List.length_append,List.length_cons,RpC.length e h3,RpE.length es h4 (fun x hx=>hk x (by simp[hx])),hk e (by simp),Nat.succ_mul];omega
theorem Lies.keepC{w w':World}{b o n:Nat}{xs:List Value}(h:Lies w b o xs)(hn:o+xs.length≤n)(hk:∀j,j < n→w'.cell? ⟨b,j,none⟩=w.cell? ⟨b,j,none⟩):Lies w' b o xs:=by
 intro j u hu;have hj:=(List.getElem?_eq_some_iff.1 hu).1;rw[hk (o+j) (by omega)];exact h j u hu
mutual
theorem Rp.keep{w w':World}:∀(d:D) {v:Value} {F:Fp},Rp w d v F→Keeps F w w'→Rp w' d v F
 | .int _ _,_,_,h,_=>by simpa only [Rp] using h
 | .bool _,_,_,h,_=>by simpa only [Rp] using h
 | .str _,_,_,h,_=>by simpa only [Rp] using h
 | .list k fl es,_,_,h,hk=>by
  simp only[Rp]at h ⊢;obtain⟨A,n,c,h1,h2,h3,h4,hf,h6,h7,h5⟩:=h;refine⟨A,n,c,h1,h2,h3,h4,hf,h6,h7,?_⟩;rcases h5 with h5|⟨h0,b,o,xs,G,h5,h8,h9,h10⟩
  ·exact .inl h5
  ·subst h8;have hl:=RpE.length es h9 h7;refine .inr ⟨h0,b,o,xs,G,h5,rfl,RpE.keep es h9 (fun be hb=>hk be (by simp[hb])),?_⟩;exact h10.keepC (n:=o+n * k) (by rw[hl,h2];exact Nat.le_refl _) (hk (b,o+n * k) (by simp))
theorem RpC.keep{w w':World}:∀(ds:List D) {vs:List Value} {F:Fp},RpC w ds vs F→Keeps F w w'→RpC w' ds vs F
 |[],_,_,h,_=>by simpa only [RpC] using h
 |d::ds,_,_,h,hk=>by
  simp only[RpC]at h ⊢;obtain⟨v,vs',F1,F2,h1,rfl,h3,h4⟩:=h;exact⟨v,vs',F1,F2,h1,rfl,Rp.keep d h3 hk.left,RpC.keep ds h4 hk.right⟩
theorem RpE.keep{w w':World}:∀(es:List (List D)) {vs:List Value} {F:Fp},RpE w es vs F→Keeps F w w'→RpE w' es vs F
 |[],_,_,h,_=>by simpa only [RpE] using h
 |e::es,_,_,h,hk=>by
  simp only[RpE]at h ⊢;obtain⟨v1,v2,F1,F2,h1,rfl,h3,h4⟩:=h;exact⟨v1,v2,F1,F2,h1,rfl,RpC.keep e h3 hk.left,RpE.keep es h4 hk.right⟩
end
theorem lt_of_cell{w:World}{b o:Nat}{v:Value}(h:w.cell? ⟨b,o,none⟩=some v):b < w.heap.size:=by
 unfold World.cell? at h;rcases Nat.lt_or_ge b w.heap.size with hl|hl
 ·exact hl
 ·simp[Array.getElem?_eq_none hl]at h
mutual
theorem Rp.lt{w:World}:∀(d:D) {v:Value} {F:Fp},Rp w d v F→∀be∈F,be.1 < w.heap.size
 | .int _ _,_,_,h=>by simp only[Rp]at h;simp[h.2.1]
 | .bool _,_,_,h=>by simp only[Rp]at h;simp[h.2]
 | .str _,_,_,h=>by simp only[Rp]at h;simp[h.2.1]
 | .list k fl es,_,_,h=>by
  simp only[Rp]at h;obtain⟨A,n,c,h1,h2,h3,h4,hf,h6,h7,h5⟩:=h;rcases h5 with h5|⟨h0,b,o,xs,G,h5,h8,h9,h10⟩
  ·simp[h5.2]
  ·subst h8;have hl:=RpE.length es h9 h7;have hp:0 < xs.length:=by rw[hl,← h2];exact Nat.mul_pos h0 h6
   have hb:=lt_of_cell (h10 0 xs[0] (by simp[hp]));intro be hbe;rcases List.mem_cons.1 hbe with rfl|hbe
   ·exact hb
   ·exact RpE.lt es h9 be hbe
theorem RpC.lt{w:World}:∀(ds:List D) {vs:List Value} {F:Fp},RpC w ds vs F→∀be∈F,be.1 < w.heap.size
 |[],_,_,h=>by simp only[RpC]at h;simp[h.2]
 |d::ds,_,_,h=>by
  simp only[RpC]at h;obtain⟨v,vs',F1,F2,h1,rfl,h3,h4⟩:=h;intro be hbe;rcases List.mem_append.1 hbe with hbe|hbe
  ·exact Rp.lt d h3 be hbe
  ·exact RpC.lt ds h4 be hbe
theorem RpE.lt{w:World}:∀(es:List (List D)) {vs:List Value} {F:Fp},RpE w es vs F→∀be∈F,be.1 < w.heap.size
 |[],_,_,h=>by simp only[RpE]at h;simp[h.2]
 |e::es,_,_,h=>by
  simp only[RpE]at h;obtain⟨v1,v2,F1,F2,h1,rfl,h3,h4⟩:=h;intro be hbe;rcases List.mem_append.1 hbe with hbe|hbe
  ·exact RpC.lt e h3 be hbe
  ·exact RpE.lt es h4 be hbe
end
theorem RpC.append{w:World}:∀(ds:List D) {es:List D} {vs us:List Value} {F G:Fp},RpC w ds vs F→RpC w es us G→RpC w (ds++es) (vs++us) (F++G)
 |[],_,_,_,_,_,h,h'=>by
  simp only[RpC]at h;obtain⟨rfl,rfl⟩:=h
  simpa using h'
 |d::ds,_,_,_,_,_,h,h'=>by
  simp only[RpC]at h;obtain⟨v,vs',F1,F2,rfl,rfl,h3,h4⟩:=h;simp only[List.cons_append,RpC];exact⟨v,_,F1,_,rfl,by simp,h3,RpC.append ds h4 h'⟩
theorem RpE.append{w:World}:∀(ds:List (List D)) {es:List (List D)} {vs us:List Value} {F G:Fp},RpE w ds vs F→RpE w es us G→RpE w (ds++es) (vs++us) (F++G)
 |[],_,_,_,_,_,h,h'=>by
  simp only[RpE]at h;obtain⟨rfl,rfl⟩:=h
  simpa using h'
 |d::ds,_,_,_,_,_,h,h'=>by
  simp only[RpE]at h;obtain⟨v1,v2,F1,F2,rfl,rfl,h3,h4⟩:=h;simp only[List.cons_append,RpE];exact⟨v1,_,F1,_,by simp,by simp,h3,RpE.append ds h4 h'⟩
theorem RpC.append_inv{w:World}:∀(ds:List D) {es:List D} {vs:List Value} {F:Fp},RpC w (ds++es) vs F→∃v1 v2 F1 F2,vs=v1++v2∧F=F1++F2∧RpC w ds v1 F1∧RpC w es v2 F2
 |[],es,vs,F,h=>⟨[],vs,[],F,rfl,rfl,by simp[RpC],by simpa using h⟩
 |d::ds,_,_,_,h=>by
  simp only[List.cons_append,RpC]at h;obtain⟨v,vs',F1,F2,rfl,rfl,h3,h4⟩:=h;obtain⟨u1,u2,G1,G2,rfl,rfl,h5,h6⟩:=RpC.append_inv ds h4;exact⟨v::u1,u2,F1++G1,G2,by simp,by simp,by simp only[RpC];exact⟨v,u1,F1,G1,rfl,rfl,h3,h5⟩,h6⟩
theorem RpE.append_inv{w:World}:∀(ds:List (List D)) {es:List (List D)} {vs:List Value} {F:Fp},RpE w (ds++es) vs F→∃v1 v2 F1 F2,vs=v1++v2∧F=F1++F2∧RpE w ds v1 F1∧RpE w es v2 F2
 |[],es,vs,F,h=>⟨[],vs,[],F,rfl,rfl,by simp[RpE],by simpa using h⟩
 |d::ds,_,_,_,h=>by
  simp only[List.cons_append,RpE]at h;obtain⟨v1,v2,F1,F2,rfl,rfl,h3,h4⟩:=h;obtain⟨u1,u2,G1,G2,rfl,rfl,h5,h6⟩:=RpE.append_inv ds h4;exact⟨v1++u1,u2,F1++G1,G2,by simp,by simp,by simp only[RpE];exact⟨v1,u1,F1,G1,rfl,rfl,h3,h5⟩,h6⟩
theorem RpE.at_{w:World}{k:Nat}{es:List (List D)}{vs:List Value}{F:Fp}(h:RpE w es vs F)(hk:∀e∈es,e.length=k){i:Nat}{e:List D}(hi:es[i]?=some e) :
  ∃G,RpC w e ((vs.drop (i * k)).take k) G∧∀be∈G,be∈F:=by
 have hlt:=(List.getElem?_eq_some_iff.1 hi).1;have e1:es=es.take i++(e::es.drop (i+1)):=by
  rw[← List.getElem?_eq_some_iff.1 hi |>.2,List.getElem_cons_drop,List.take_append_drop]
 rw[e1]at h;obtain⟨v1,v2,F1,F2,rfl,rfl,h3,h4⟩:=RpE.append_inv _ h;simp only[RpE]at h4;obtain⟨u1,u2,G1,G2,rfl,rfl,h5,h6⟩:=h4;have hl1:v1.length=i * k:=by
  rw[RpE.length _ h3 (fun x hx=>hk x (List.mem_of_mem_take hx)),List.length_take,Nat.min_eq_left (by omega)]
 have hl2:u1.length=k:=by rw[RpC.length _ h5];exact hk e (List.mem_of_getElem? hi)
 refine⟨G1,?_,fun be hb=>by simp[hb]⟩;rw[← hl1,List.drop_left,← hl2,List.take_left];exact h5
theorem RpC.at_{w:World}:∀{ds:List D} {vs:List Value} {F:Fp},RpC w ds vs F→∀{i:Nat} {d:D},ds[i]?=some d→∃v G,vs[i]?=some v∧Rp w d v G∧∀be∈G,be∈F
 |[],_,_,_,i,d,hi=>by simp at hi
 |x::ds,_,_,h,i,d,hi=>by
  simp only[RpC]at h;obtain⟨v,vs',F1,F2,rfl,rfl,h3,h4⟩:=h;cases i with
  |zero=>simp at hi;subst hi;exact⟨v,F1,rfl,h3,fun be hb=>by simp[hb]⟩
  |succ i=>
   simp at hi;obtain⟨u,G,h5,h6,h7⟩:=RpC.at_ h4 hi;exact⟨u,G,by simpa using h5,h6,fun be hb=>by simp[h7 be hb]⟩
theorem RpC.drop{w:World}:∀(ds:List D) {vs:List Value} {F:Fp} (n:Nat),RpC w ds vs F→∃G,RpC w (ds.drop n) (vs.drop n) G∧∀be∈G,be∈F
 |ds,_,F,0,h=>⟨F,by simpa using h,fun _ h=>h⟩
 |[],_,F,n+1,h=>⟨F,by simp only[RpC]at h;simp[RpC,h.1,h.2],fun _ h=>h⟩
 |d::ds,_,_,n+1,h=>by
  simp only[RpC]at h;obtain⟨v,vs',F1,F2,rfl,rfl,h3,h4⟩:=h;obtain⟨G,h5,h6⟩:=RpC.drop ds n h4;exact⟨G,by simpa using h5,fun be hb=>by simp[h6 be hb]⟩
theorem RpC.take{w:World}:∀(ds:List D) {vs:List Value} {F:Fp} (n:Nat),RpC w ds vs F→∃G,RpC w (ds.take n) (vs.take n) G∧∀be∈G,be∈F
 |ds,_,F,0,h=>⟨[],by simp[RpC],fun _ h=>by simp at h⟩
 |[],_,F,n+1,h=>⟨F,by simp only[RpC]at h;simp[RpC,h.1,h.2],fun _ h=>h⟩
 |d::ds,_,_,n+1,h=>by
  simp only[RpC]at h;obtain⟨v,vs',F1,F2,rfl,rfl,h3,h4⟩:=h;obtain⟨G,h5,h6⟩:=RpC.take ds n h4;refine⟨F1++G,?_,fun be hb=>?_⟩
  ·simp only[List.take_succ_cons,RpC];exact⟨v,_,F1,G,rfl,rfl,h3,h5⟩
  ·rcases List.mem_append.1 hb with hb|hb
   ·simp[hb]
   ·simp[h6 be hb]
theorem RpC.plain{w:World}:∀{ds:List D} {vs:List Value} {F:Fp},RpC w ds vs F→(∀x∈ds,D.plain x=true)→F=[]
 |[],_,_,h,_=>by simp only[RpC]at h;exact h.2
 |d::ds,_,_,h,hp=>by
  simp only[RpC]at h;obtain⟨v,vs',F1,F2,rfl,rfl,h3,h4⟩:=h;have e2:=RpC.plain h4 (fun x hx=>hp x (by simp[hx]));have e1:=hp d (by simp);cases d with
  |list k fl es=>simp[D.plain]at e1
  |int k n=>simp only[Rp]at h3;simp[h3.2.1,e2]
  |bool b=>simp only[Rp]at h3;simp[h3.2,e2]
  |str s=>simp only[Rp]at h3;simp[h3.2.1,e2]
theorem RpE.plain{w:World}:∀{es:List (List D)} {vs:List Value} {F:Fp},RpE w es vs F→flat es→F=[]
 |[],_,_,h,_=>by simp only[RpE]at h;exact h.2
 |e::es,_,_,h,hp=>by
  simp only[RpE]at h;obtain⟨v1,v2,F1,F2,rfl,rfl,h3,h4⟩:=h;rw[RpC.plain h3 (hp e (by simp)),RpE.plain h4 (fun x hx=>hp x (by simp[hx]))];rfl
theorem Rp.isOne{w:World}{d:D}{v:Value}{F:Fp}(h:Rp w d v F):one v=true:=by
 cases d with
 |int k n=>simp only[Rp]at h;rw[h.1];rfl
 |bool b=>simp only[Rp]at h;rw[h.1];rfl
 |str s=>simp only[Rp]at h;rw[h.1];rfl
 |list k fl es=>simp only[Rp]at h;obtain⟨A,n,c,h1,_⟩:=h;rw[h1];rfl
theorem RpC.isOne{w:World}:∀{ds:List D} {vs:List Value} {F:Fp},RpC w ds vs F→∀v∈vs,one v=true
 |[],_,_,h=>by simp only[RpC]at h;simp[h.1]
 |d::ds,_,_,h=>by
  simp only[RpC]at h;obtain⟨v,vs',F1,F2,rfl,rfl,h3,h4⟩:=h;intro u hu;rcases List.mem_cons.1 hu with rfl|hu
  ·exact h3.isOne
  ·exact RpC.isOne h4 u hu
theorem RpE.isOne{w:World}:∀{es:List (List D)} {vs:List Value} {F:Fp},RpE w es vs F→∀v∈vs,one v=true
 |[],_,_,h=>by simp only[RpE]at h;simp[h.1]
 |e::es,_,_,h=>by
  simp only[RpE]at h;obtain⟨v1,v2,F1,F2,rfl,rfl,h3,h4⟩:=h;intro u hu;rcases List.mem_append.1 hu with hu|hu
  ·exact h3.isOne u hu
  ·exact RpE.isOne h4 u hu
end
section
structure Row where
 es:List (List D)
 k:Nat
 fl:Bool
 deep:Bool
 app:Bool
 fz:Bool
inductive C where
 |d (x:D)
 |nil (k:Nat) (fl:Bool)
 |ref (r:Nat)
 |ptr (b o:Nat)
 |ept (r k i o:Nat)
 |dpt (cs:List D)
 |agg (cs:List C)
 |tup (cs:List C)
 |und
 |any
instance:Inhabited C:=⟨.any⟩
mutual
def C.kill(i:Nat):C→C
 | .ref r=>if r=i then .any else .ref r
 | .ptr b o=>if b=i then .any else .ptr b o
 | .ept r k a o=>if r=i then .any else .ept r k a o
 | .agg cs=>.agg (C.kills i cs)
 | .tup cs=>.tup (C.kills i cs)
 |c=>c
def C.kills(i:Nat):List C→List C
 |[]=>[]
 |c::cs=>C.kill i c::C.kills i cs
end
inductive RV where
 |d (x:D)
 |row (r:Row)
inductive A where
 |val (agg:Bool) (cs:List RV)
 |box (cs:List RV)
structure St where
 sl:List (Nat×C)
 bx:List (Nat×List C)
 rw:List (Nat×Row)
def look{α:Type}:List (Nat×α)→Nat→Option α
 |[],_=>none
 |(k,x)::l,d=>if k=d then some x else look l d
def drp{α:Type}(l:List (Nat×α))(d:Nat):List (Nat×α):=l.filter (fun p=>p.1 !=d)
def killS(i:Nat)(l:List (Nat×C)):List (Nat×C):=l.map fun p=>(p.1,p.2.kill i)
def killB(i:Nat)(l:List (Nat×List C)):List (Nat×List C):=l.map fun p=>(p.1,C.kills i p.2)
def St.kill(s:St)(i:Nat):St:=⟨killS i s.sl,killB i s.bx,s.rw⟩
def St.get(s:St)(d:Nat):C:=(look s.sl d).getD .any
def St.put(s:St)(dst:Option Nat)(c:C):St:=
 match dst with
 |some d=>{s with sl:=(d,c)::s.sl }
 |none=>s
def St.setBox(s:St)(b:Nat)(cs:List C):St:={s with bx:=(b,cs)::drp s.bx b }
def St.setRow(s:St)(r:Nat)(x:Row):St:={s with rw:=(r,x)::drp s.rw r }
def St.dropRow(s:St)(r:Nat):St:={s with rw:=drp s.rw r }
def St.newBox(s:St)(b:Nat)(cs:List C):St:=(s.kill b).setBox b cs
def St.newRow(s:St)(r:Nat)(x:Row):St:=(s.kill r).setRow r x
def rid(d j:Nat):Nat:=1000 * (d+1)+j
inductive KX where
 |s (d:Nat)
 |k (c:C)
def evX(s:St):KX→C
 | .s d=>s.get d
 | .k c=>c
def C.cells:C→List C
 | .agg cs=>cs
 |c=>[c]
def nth{α:Type}:List α→Nat→Option α
 |[],_=>none
 |x::_,0=>some x
 |_::l,i+1=>nth l i
def C.const:C→Bool
 | .d x=>D.plain x
 | .nil _ _=>true
 |_=>false
def C.cell:C→Bool
 | .d _=>true
 | .nil _ _=>true
 | .ref _=>true
 |_=>false
def emb:St→List C→Option (List D×Bool×St)
 |s,[]=>some ([],true,s)
 |s,c::cs=>
  match c with
  | .d x=>(emb s cs).map fun (ds,dp,s')=>(x::ds,D.plain x && dp,s')
  | .nil k fl=>(emb s cs).map fun (ds,dp,s')=>(.list k fl []::ds,dp,s')
  | .ref r=>
   match look s.rw r with
   |some x=>(emb (s.dropRow r) cs).map fun (ds,dp,s')=>(.list x.k x.fl x.es::ds,x.deep && !x.fz && dp,s')
   |none=>none
  |_=>none
def plains(ds:List D):Bool:=ds.all D.plain
def embs(k:Nat)(fl:Bool):St→List C→Option (List (List D)×Bool×St)
 |s,[]=>some ([],true,s)
 |s,c::cs=>
  match emb s c.cells with
  |some (ds,dp,s1)=>if ds.length=k∧(fl=true→plains ds=true) then (embs k fl s1 cs).map fun (es,dp',s')=>(ds::es,dp && dp',s') else none
  |none=>none
def room:Nat:=140737488355328
inductive KO where
 |mv (x:KX)
 |pick (c x y:KX)
 |alloc (zs:List C)
 |box (x:KX)
 |build (zs:List C) (ps:List (Nat×Nat×KX))
 |mkrow (k:Nat) (fl:Bool) (xs:List KX)
 |make (k by_:Nat) (fl:Bool) (zs:List D) (x:KX)
 |ld (n:Nat) (x:KX)
 |st (n:Nat) (x y:KX)
 |fa (o:Nat) (x:KX)
 |ia (k:Nat) (x i:KX)
 |six (x i:KX)
 |bin (op:BinOp) (x y:KX)
 |bib (op:BinOp) (x y:KX)
 |not (x:KX)
 |neg (x:KX)
 |conv (k:IntKind) (x:KX)
 |len (x:KX)
 |sln (x:KX)
 |app (k by_:Nat) (fl:Bool) (x y:KX)
 |min (x y:KX)
 |max (x y:KX)
 |ext (x:KX) (i:Nat)
 |slc (x hi:KX)
 |nck (x:KX)
 |bts (x:KX)
 |call (f:Nat) (xs:List KX)
 |mrk (f:Nat) (x y:KX)
 |cut (k:Nat) (x:KX) (lo hi:Option KX)
 |ssl (x:KX) (lo hi:Option KX)
 |sl2 (k:Nat) (x:KX) (lo hi:Option KX)
 |ixa (n k:Nat) (x i:KX)
 |cpy (k:Nat) (x y:KX)
 |zro (zs:List C)
 |jn (x y:KX)
 |mvr (x:KX)
structure KI where
 dst:Option Nat
 op:KO
 gd:Option (Nat×Bool)
structure KD where
 j:Nat
 q:Bool
 al:List Nat
 dn:List Nat
 i:KI
inductive KT where
 |nil
 |op (x:KD) (t:KT)
 |alt (x:KD) (t r:KT)
structure Keep where
 s:List Nat
 b:List Nat
 r:List Nat
inductive K where
 |skip
 |reg (ops:List KI) (kp:Keep)
 |drw (ops:KT) (kp:Keep)
 |seq (a b:K)
 |cond (c:KX) (a b:K)
 |block (id:Nat) (a:K)
 |loop (a:K)
 |exit (id:Nat)
 |ret
 |share (r:Nat) (a:K)
 |dat (d:Nat) (a:K)
inductive Ex where
 |norm
 |exit (id:Nat)
 |ret
def binI(op:BinOp)(k:IntKind)(a b:Int):Option D:=
 match op with
 | .add=>some (.int k (k.wrap (a+b)))
 | .sub=>some (.int k (k.wrap (a - b)))
 | .mul=>some (.int k (k.wrap (a * b)))
 | .lss=>some (.bool (decide (a < b)))
 | .leq=>some (.bool (decide (a≤b)))
 | .gtr=>some (.bool (decide (b < a)))
 | .geq=>some (.bool (decide (b≤a)))
 | .eql=>some (.bool (decide (a=b)))
 | .neq=>some (.bool (!decide (a=b)))
 | .quo=>if k=.i64∧0≤a∧1≤b then some (.int k (a / b)) else if k=.i64∧a < 0∧1≤b then some (.int k (-(-a / b))) else none
 | .rem=>if k=.i64∧0≤a∧1≤b then some (.int k (a % b)) else if k=.i64∧a < 0∧1≤b then some (.int k (-(-a % b))) else none
 |_=>none
def sLess(a b:ByteArray):Bool:=Op.bytesLess a.toList b.toList
def binS(op:BinOp)(a b:ByteArray):Option D:=
 match op with
 | .add=>if a.size+b.size≤maxLen then some (.str (a++b)) else none
 | .eql=>some (.bool (decide (a=b)))
 | .neq=>some (.bool (!decide (a=b)))
 | .lss=>some (.bool (sLess a b))
 | .leq=>some (.bool (sLess a b ||decide (a=b)))
 | .gtr=>some (.bool (!(sLess a b ||decide (a=b))))
 | .geq=>some (.bool (!sLess a b))
 |_=>none
def binB(op:BinOp)(a b:Bool):Option D:=
 match op with
 | .eql=>some (.bool (decide (a=b)))
 | .neq=>some (.bool (!decide (a=b)))
 |_=>none
def binD(op:BinOp):C→C→Option C
 | .d (.int k a),.d (.int k' b)=>if k=k' then (binI op k a b).map .d else none
 | .d (.str a),.d (.str b)=>(binS op a b).map .d
 |_,_=>none
def rdCell(s:St):C→Option RV
 | .d x=>some (.d x)
 | .nil k fl=>some (.d (.list k fl []))
 | .ref r=>(look s.rw r).map fun x=>.d (.list x.k x.fl x.es)
 |_=>none
def wrCell(s:St):C→Option RV
 | .d x=>some (.d x)
 | .nil k fl=>some (.row ⟨[],k,fl,true,true,false⟩)
 | .ref r=>(look s.rw r).map .row
 |_=>none
def mapO{α β:Type}(f:α→Option β):List α→Option (List β)
 |[]=>some []
 |x::xs=>match f x with
  |some y=>(mapO f xs).map (y::·)
  |none=>none
def C.isAgg:C→Bool
 | .agg _=>true
 |_=>false
def toA(s:St)(c:C):Option A:=
 match c with
 | .ptr b 0=>match look s.bx b with
  |some cs=>(mapO (wrCell s) cs).map .box
  |none=>none
 |c=>(mapO (rdCell s) c.cells).map (.val c.isAgg)
def toAs(s:St):List C→Option (List A)
 |[]=>some []
 |c::cs=>match toA s c with
  |some a=>(toAs s cs).map (a::·)
  |none=>none
def rowsOf:List C→List Nat
 |[]=>[]
 | .ref r::cs=>r::rowsOf cs
 |_::cs=>rowsOf cs
def moved(s:St):C→List Nat
 | .ptr b 0=>rowsOf ((look s.bx b).getD [])
 |_=>[]
def movedAll(s:St):List C→List Nat
 |[]=>[]
 |c::cs=>moved s c++movedAll s cs
def lentAll:List C→List Nat
 |[]=>[]
 |c::cs=>rowsOf c.cells++lentAll cs
def boxesOf:List C→List Nat
 |[]=>[]
 | .ptr b _::cs=>b::boxesOf cs
 |_::cs=>boxesOf cs
def RV.closed:RV→Bool
 | .d x=>D.plain x
 | .row r=>r.deep
def A.closed:A→Bool
 | .val _ cs=>cs.all RV.closed
 | .box cs=>cs.all RV.closed
def Row.share(r:Row):Row:={r with fz:=true,deep:=r.fl }
def shareAll(s:St):List Nat→St
 |[]=>s
 |r::rs=>match look s.rw r with
  |some x=>shareAll (s.setRow r x.share) rs
  |none=>shareAll s rs
def inCells(d:Nat):Nat→List RV→St→List C×St
 |_,[],s=>([],s)
 |j,.d x::cs,s=>let (l,s'):=inCells d (j+1) cs s;(.d x::l,s')
 |j,.row r::cs,s=>let (l,s'):=inCells d (j+1) cs (s.newRow (rid d j) r);(.ref (rid d j)::l,s')
def wback(s:St):List C→List A→St
 | .ptr b 0::cs,.box vs::outs=>let (l,s'):=inCells (b+500) 0 vs s;wback (s'.setBox b l) cs outs
 | .ptr _ 0::_,_=>s
 |_::cs,outs=>wback s cs outs
 |[],_=>s
def resCells(d:Nat):Nat→List A→St→List C×St
 |_,[],s=>([],s)
 |q,.val ag vs::rs,s=>
  let (l,s1):=inCells d (30 * q) vs s
  let (m,s2):=resCells d (q+1) rs s1
  ((if ag then .agg l else l.headD .any)::m,s2)
 |_,.box _::_,s=>([],s)
def nodupB:List Nat→Bool
 |[]=>true
 |x::xs=>!xs.contains x && nodupB xs
def dropRows(s:St):List Nat→St
 |[]=>s
 |r::rs=>dropRows (s.dropRow r) rs
def splC{α:Type}(l:List α)(o:Nat)(n:List α):List α:=l.take o++n++l.drop (o+n.length)
def A.short:A→Bool
 | .val _ cs=>Nat.ble cs.length 30
 | .box _=>false
def dropBoxes(s:St):List Nat→St
 |[]=>s
 |b::bs=>dropBoxes {s with bx:=drp s.bx b } bs
def fillC(zs:List C):List (Nat×Nat×List C)→Option (List C)
 |[]=>some zs
 |(o,n,cs)::ps=>if cs.length=n∧o+n≤zs.length∧cs.all C.cell=true then fillC (splC zs o cs) ps else none
def rowsAll:List C→List Nat
 |[]=>[]
 |c::cs=>rowsOf c.cells++rowsAll cs
def callIds(s:St)(cs:List C):List Nat:=boxesOf cs++movedAll s cs++lentAll cs
def bytesOf:List (List D)→Option (List Int)
 |[]=>some []
 |[.int .u8 n]::es=>(bytesOf es).map (n::·)
 |_=>none
def cellM(s:St):C→Option D
 | .d x=>match x with
  | .list k fl []=>some (.list k fl [])
  | .list _ _ _=>none
  |x=>some x
 | .nil k fl=>some (.list k fl [])
 | .ref r=>match look s.rw r with
  |some row=>if row.deep=true∧row.fz=false then some (.list row.k row.fl row.es) else none
  |none=>none
 |_=>none
def cellsM(s:St):List C→Option (List D)
 |[]=>some []
 |c::cs=>match cellM s c with
  |some x=>(cellsM s cs).map (x::·)
  |none=>none
def backM(s:St):List C→List D→St→Option St
 |[],[],acc=>some acc
 | .ref r::cs,.list k fl es::ds,acc=>match look s.rw r with
  |some row=>if k=row.k∧fl=row.fl then backM s cs ds (acc.setRow r ⟨es,row.k,row.fl,true,false,false⟩) else none
  |none=>none
 | .ref _::_,_,_=>none
 |_::cs,_::ds,acc=>backM s cs ds acc
 |_,_,_=>none
section
variable (cf:Nat→List A→Option (List A×List A)) (mf:Nat→Bool→List D→Int→Option (List D×Int))
def evCall(s:St)(d:Option Nat)(f:Nat)(cs:List C):Option St:=
 match toAs s cs with
 |none=>none
 |some as=>
  if nodupB (movedAll s cs) && nodupB (boxesOf cs) && (movedAll s cs).all (fun r=>!(lentAll cs).contains r) then
   match cf f as with
   |none=>none
   |some (rs,outs)=>if rs.all A.short then
    let s0:=if rs.all A.closed && outs.all A.closed then s else shareAll s (lentAll cs)
    let s1:=dropBoxes (dropRows s0 (movedAll s cs)) (boxesOf cs)
    let s2:=wback s1 cs outs
    let (l,s4):=resCells (d.getD 0) 0 rs s2
    some (s4.put d (match l with|[c]=>c|l=>.tup l))
    else none
  else none
def optI(s:St)(o:Option KX)(z:Nat):Option Nat:=
 match o with
 |none=>some z
 |some e=>match evX s e with
  | .d (.int .i64 n)=>if 0≤n then some n.toNat else none
  |_=>none
def evP(s:St):KO→Option C
 | .mv x=>some (evX s x)
 | .pick c x y=>match evX s c with
  | .d (.bool b)=>some (if b then evX s x else evX s y)
  |_=>none
 | .build zs ps=>(fillC zs (ps.map fun p=>(p.1,p.2.1,(evX s p.2.2).cells))).map .agg
 | .ld n x=>match evX s x with
  | .ptr b o=>match look s.bx b with
   |some cs=>if n=0 then nth cs o else if o+n≤cs.length then some (.agg ((cs.drop o).take n)) else none
   |none=>none
  | .dpt cs=>if n=0 then (nth cs 0).map .d else if n≤cs.length then some (.agg ((cs.take n).map .d)) else none
  | .ept r k i o=>match look s.rw r with
   |some row=>match nth row.es i with
    |some e=>if row.k=k∧o+max n 1≤k∧(plains ((e.drop o).take (max n 1)) ||!row.deep)=true then
      (if n=0 then (nth e o).map .d else some (.agg (((e.drop o).take n).map .d))) else none
    |none=>none
   |none=>none
  |_=>none
 | .fa o x=>match evX s x with
  | .ptr b p=>some (.ptr b (p+o))
  | .dpt cs=>some (.dpt (cs.drop o))
  | .ept r k i p=>some (.ept r k i (p+o))
  |_=>none
 | .ia k x i=>match evX s x,evX s i with
  | .d (.list k' _ es),.d (.int .i64 n)=>if 0≤n∧k'=k then (nth es n.toNat).map .dpt else none
  | .ref r,.d (.int .i64 n)=>match look s.rw r with
   |some row=>if 0≤n∧n.toNat < row.es.length∧row.k=k then some (.ept r k n.toNat 0) else none
   |none=>none
  |_,_=>none
 | .zro zs=>if zs.all C.const then some (.agg zs) else none
 | .ixa n k x i=>match evX s x,evX s i with
  | .ptr b o,.d (.int .i64 m)=>if 0≤m∧m.toNat < n then some (.ptr b (o+m.toNat * k)) else none
  |_,_=>none
 | .six x i=>match evX s x,evX s i with
  | .d (.str t),.d (.int .i64 n)=>if 0≤n∧n.toNat < t.size then some (.d (.int .u8 (bAt t n.toNat))) else none
  |_,_=>none
 | .bin op x y=>binD op (evX s x) (evX s y)
 | .bib op x y=>match evX s x,evX s y with
  | .d (.bool a),.d (.bool b)=>(binB op a b).map .d
  |_,_=>none
 | .not x=>match evX s x with
  | .d (.bool b)=>some (.d (.bool (!b)))
  |_=>none
 | .neg x=>match evX s x with
  | .d (.int k a)=>some (.d (.int k (k.wrap (-a))))
  |_=>none
 | .conv k x=>match evX s x with
  | .d (.int _ a)=>some (.d (.int k (k.wrap a)))
  |_=>none
 | .len x=>match evX s x with
  | .d (.list _ _ es)=>some (.d (.int .i64 es.length))
  | .nil _ _=>some (.d (.int .i64 0))
  | .ref r=>match look s.rw r with
   |some row=>some (.d (.int .i64 row.es.length))
   |none=>none
  |_=>none
 | .sln x=>match evX s x with
  | .d (.str t)=>some (.d (.int .i64 t.size))
  |_=>none
 | .min x y=>match evX s x,evX s y with
  | .d (.int .i64 a),.d (.int .i64 b)=>some (.d (.int .i64 (if b < a then b else a)))
  |_,_=>none
 | .max x y=>match evX s x,evX s y with
  | .d (.int .i64 a),.d (.int .i64 b)=>some (.d (.int .i64 (if a < b then b else a)))
  |_,_=>none
 | .ext x i=>match evX s x with
  | .tup cs=>nth cs i
  |_=>none
 | .slc x y=>match evX s x,evX s y with
  | .d (.list k fl es),.d (.int .i64 n)=>if 0≤n∧n.toNat≤es.length then some (.d (.list k fl (es.take n.toNat))) else none
  |_,_=>none
 | .ssl x lo hi=>match evX s x with
  | .d (.str t)=>match optI s lo 0,optI s hi t.size with
   |some a,some b=>if a≤b∧b≤t.size then some (.d (.str (t.extract a b))) else none
   |_,_=>none
  |_=>none
 | .sl2 k' x lo hi=>match evX s x with
  | .d (.list k fl es)=>match optI s lo 0,optI s hi es.length with
   |some a,some b=>if k=k'∧a≤b∧b≤es.length then some (.d (.list k fl ((es.take b).drop a))) else none
   |_,_=>none
  |_=>none
 | .nck x=>match evX s x with
  | .ptr b o=>some (.ptr b o)
  | .dpt cs=>some (.dpt cs)
  | .ept r k i o=>some (.ept r k i o)
  |_=>none
 | .bts x=>match evX s x with
  | .ref r=>match look s.rw r with
   |some row=>if row.k=1 then (bytesOf row.es).map fun xs=>.d (.str ⟨(xs.map fun n=>UInt8.ofNat n.toNat).toArray⟩) else none
   |none=>none
  |_=>none
 |_=>none
mutual
def C.ren(q i:Nat):C→C
 | .ref r=>if r=q then .ref i else if r=i then .any else .ref r
 | .ept r k a o=>if r=q then .ept i k a o else if r=i then .any else .ept r k a o
 | .agg cs=>.agg (C.rens q i cs)
 | .tup cs=>.tup (C.rens q i cs)
 |c=>c
def C.rens(q i:Nat):List C→List C
 |[]=>[]
 |c::cs=>C.ren q i c::C.rens q i cs
end
def renS(q i:Nat)(l:List (Nat×C)):List (Nat×C):=l.map fun p=>(p.1,p.2.ren q i)
def renB(q i:Nat)(l:List (Nat×List C)):List (Nat×List C):=l.map fun p=>(p.1,C.rens q i p.2)
def St.ren(s:St)(q i:Nat)(row:Row):St:=⟨renS q i s.sl,renB q i s.bx,(i,row)::drp (drp s.rw q) i⟩
def bools:List (List D)→Option (List Bool)
 |[]=>some []
 |[.bool b]::es=>(bools es).map (b::·)
 |_=>none
def joinB:List Bool→List Bool→List Bool
 |a::as,b::bs=>(a ||b)::joinB as bs
 |as,_=>as
def grewB:List Bool→List Bool→Bool
 |a::as,b::bs=>(b && !a) ||grewB as bs
 |_,_=>false
def jnSrc(s:St)(r:Nat):C→Option (List (List D))
 | .d (.list 1 _ es)=>some es
 | .ref q=>match look s.rw q with
  |some row=>if row.k=1∧q≠r then some row.es else none
  |none=>none
 |_=>none
def appSrc(s:St)(k:Nat)(fl:Bool):C→Option (List (List D)×Bool×St)
 | .d (.list k' fl' es)=>if k'=k∧fl'=fl then some (es,fl,s) else none
 | .nil _ _=>some ([],true,s)
 | .ref q=>match look s.rw q with
  |some row=>if row.k=k∧row.fl=fl then some (row.es,(row.deep && !row.fz) ||fl,s.dropRow q) else none
  |none=>none
 |_=>none
def evN(s:St)(d:Option Nat):KO→Option St
 | .alloc zs=>match d with
  |some b=>if zs.all C.const then some ((s.newBox b zs).put d (.ptr b 0)) else none
  |none=>none
 | .box x=>match d with
  |some b=>if (evX s x).cells.all C.cell then some ((s.newBox b (C.kills b (evX s x).cells)).put d (.ptr b 0)) else none
  |none=>none
 | .mkrow k fl xs=>match d with
  |some r=>match embs k fl s (xs.map (evX s)) with
   |some (es,dp,s1)=>if 0 < k then some ((s1.newRow r ⟨es,k,fl,dp,true,false⟩).put d (.ref r)) else none
   |none=>none
  |none=>none
 | .make k by_ fl zs x=>match d,evX s x with
  |some r,.d (.int .i64 n)=>if 0≤n∧n.toNat * by_≤room∧n≤4611686018427387904 then some ((s.newRow r ⟨List.replicate n.toNat zs,k,fl,true,true,false⟩).put d (.ref r)) else none
  |_,_=>none
 | .st n x y=>match evX s x with
  | .ptr b o=>match look s.bx b with
   |some cs=>if (evX s y).cells.all C.cell=true∧(evX s y).cells.length=n∧o+n≤cs.length then some (s.setBox b (splC cs o (evX s y).cells)) else none
   |none=>none
  | .ept r k i o=>match emb s (evX s y).cells with
   |some (ds,dp,s1)=>match look s1.rw r with
    |some row=>match nth row.es i with
     |some e=>if row.k=k∧row.fz=false∧row.app=true∧ds.length=n∧o+n≤k∧(row.fl=true→plains ds=true)∧(dp ||!row.deep)=true then
       some (s1.setRow r {row with es:=row.es.set i (splC e o ds) }) else none
     |none=>none
    |none=>none
   |none=>none
  |_=>none
 | .app k by_ fl x y=>match d with
  |none=>none
  |some d0=>match appSrc s k fl (evX s y) with
   |none=>none
   |some (es,dp,s1)=>match evX s x with
    | .nil k' fl'=>if k'=k∧fl'=fl∧es.length * by_≤room∧es.length≤maxLen then some ((s1.newRow d0 ⟨es,k,fl,dp,true,false⟩).put d (.ref d0)) else none
    | .ref r=>match look s1.rw r with
     |some row=>if row.k=k∧row.fl=fl∧row.app=true∧(row.es.length+es.length) * by_≤room∧row.es.length+es.length≤maxLen then
       some ((s1.newRow r {row with es:=row.es++es,deep:=row.deep && dp }).put d (.ref r)) else none
     |none=>none
    |_=>none
 | .call f xs=>evCall cf s d f (xs.map (evX s))
 | .cut k x lo hi=>match d with
  |none=>none
  |some _=>match evX s x with
   | .nil k' fl=>match optI s lo 0,optI s hi 0 with
    |some a,some b=>if k'=k∧a=0∧b=0 then some (s.put d (.nil k' fl)) else none
    |_,_=>none
   | .ref r=>match look s.rw r with
    |some row=>match optI s lo 0,optI s hi row.es.length with
     |some a,some b=>if row.k=k∧a≤b∧b≤row.es.length∧row.fz=false then some ((s.newRow r {row with es:=(row.es.take b).drop a,app:=row.app && lo.isNone }).put d (.ref r)) else none
     |_,_=>none
    |none=>none
   |_=>none
 | .cpy k x y=>match d,evX s x,evX s y with
  |some d0,.ref r,.d (.list k' fl' es)=>match look s.rw r with
   |some row=>if row.k=k∧k'=k∧fl'=true∧row.fl=true∧row.fz=false∧row.app=true∧es.length=row.es.length then
     some ((s.setRow r {row with es:=es }).put (some d0) (.d (.int .i64 es.length))) else none
   |none=>none
  |_,_,_=>none
 | .mvr x=>match d with
  |some d0=>match evX s x with
   | .ref q=>match look s.rw q with
    |some row=>some ((s.ren q (rid d0 0) row).put (some d0) (.ref (rid d0 0)))
    |none=>none
   |c=>some (s.put (some d0) c)
  |none=>none
 | .jn x y=>match d,evX s x with
  |some d0,.ref r=>match look s.rw r,jnSrc s r (evX s y) with
   |some row,some es=>if row.k=1∧row.fl=true∧row.fz=false∧row.app=true∧es.length=row.es.length then
     (match bools row.es,bools es with
     |some bs,some cs=>if es≠[] then some ((s.setRow r {row with es:=(joinB bs cs).map fun b=>[D.bool b] }).put (some d0) (.d (.bool (grewB bs cs)))) else none
     |_,_=>none) else none
   |_,_=>none
  |_,_=>none
 | .mrk f x y=>match d,evX s y with
  |some d0,.d (.int .i64 q)=>match cellsM s (evX s x).cells with
   |some ds=>if nodupB (rowsOf (evX s x).cells) then (match mf f (evX s x).isAgg ds q with
    |some (ds',q')=>(backM s (evX s x).cells ds' (dropRows s (rowsOf (evX s x).cells))).map fun s'=>s'.put (some d0) (.d (.int .i64 q'))
    |none=>none) else none
   |none=>none
  |_,_=>none
 |_=>none
def KO.pure_:KO→Bool
 | .alloc _=>false
 | .box _=>false
 | .mkrow _ _ _=>false
 | .make _ _ _ _ _=>false
 | .st _ _ _=>false
 | .app _ _ _ _ _=>false
 | .call _ _=>false
 | .mrk _ _ _=>false
 | .cut _ _ _ _=>false
 | .cpy _ _ _=>false
 | .jn _ _=>false
 | .mvr _=>false
 |_=>true
def evO(s:St)(d:Option Nat)(o:KO):Option St:=
 if o.pure_ then (evP s o).map (s.put d) else evN cf mf s d o
def evI(s:St)(i:KI):Option St:=
 match i.gd with
 |none=>evO cf mf s i.dst i.op
 |some (g,want)=>match s.get g with
  | .d (.bool b)=>if b=want then evO cf mf s i.dst i.op else some (s.put i.dst .und)
  | .und=>some (s.put i.dst .und)
  |_=>none
def evOps:List KI→St→Option St
 |[],s=>some s
 |i::is,s=>match evI cf mf s i with
  |some s'=>evOps is s'
  |none=>none
def KO.isLd:KO→Bool
 | .ld _ _=>true
 | .bts _=>true
 |_=>false
def ldBox(s:St):KO→Option (Option Nat)
 | .ld _ x=>match evX s x with
  | .ptr b _=>some (some b)
  | .dpt _=>some none
  |_=>none
 | .bts _=>none
 |_=>some none
def touch(s:St)(d:Option Nat):KO→List Nat
 | .st _ x y=>(match evX s x with
   | .ptr b _=>[b]
   | .ept r _ _ _=>r::rowsOf (evX s y).cells
   |_=>[])
 | .mkrow _ _ xs=>d.toList++rowsAll (xs.map (evX s))
 | .app _ _ _ x y=>d.toList++rowsOf [evX s x]++rowsOf [evX s y]
 | .call f xs=>callIds s (xs.map (evX s))
 | .mrk _ x _=>rowsOf (evX s x).cells
 | .cut _ x _ _=>d.toList++rowsOf [evX s x]
 | .cpy _ x _=>d.toList++rowsOf [evX s x]
 | .jn x _=>d.toList++rowsOf [evX s x]
 |_=>d.toList
def tkAdd(dn:List Nat)(tk:List (List Nat×Nat)):Option Nat→List (List Nat×Nat)
 |some b=>(dn,b)::tk
 |none=>tk
def tkCut(j:Nat)(tk:List (List Nat×Nat)):List (List Nat×Nat):=tk.filter fun p=>!p.1.contains j
def keepL{α:Type}(l:List (Nat×α)):List Nat→List (Nat×α)
 |[]=>[]
 |d::ds=>match look l d with
  |some x=>(d,x)::keepL l ds
  |none=>keepL l ds
def St.keep(s:St)(kp:Keep):St:=⟨keepL s.sl kp.s,keepL s.bx kp.b,keepL s.rw kp.r⟩
def stepN(x:KD)(tk:List (List Nat×Nat))(s:St)(k:List (List Nat×Nat)→St→Option St):Option St:=
 match evI cf mf s x.i with
 |some s'=>if (tkCut x.j tk).all (fun p=>!(touch s x.i.dst x.i.op).contains p.2 && (look s'.bx p.2).isSome && !(x.i.dst ==some p.2)) then k (tkCut x.j tk) s' else none
 |none=>none
open Classical in
noncomputable def both{α:Type}:Option α→Option α→Option α
 |some a,some b=>if a=b then some a else none
 |_,_=>none
noncomputable def evDs(kp:Keep):KT→List (List Nat×Nat)→St→Option St
 | .nil,_,s=>some (s.keep kp)
 | .op ⟨j,quiet,al,dn,i⟩ is,tk,s=>
  if quiet then
   (match i.gd with
   |none=>(match evP s i.op,ldBox s i.op with
    |some c,some b=>evDs kp is (tkAdd dn tk b) (s.put i.dst c)
    |_,_=>none)
   |some (g,want)=>match s.get g with
    | .d (.bool t)=>if t=want then (match evP s i.op,ldBox s i.op with
      |some c,some b=>evDs kp is (tkAdd dn tk b) (s.put i.dst c)
      |_,_=>none) else evDs kp is tk (s.put i.dst .und)
    | .und=>evDs kp is tk (s.put i.dst .und)
    |_=>none)
  else stepN cf mf ⟨j,quiet,al,dn,i⟩ tk s (evDs kp is)
 | .alt x is r,tk,s=>both (stepN cf mf x tk s (evDs kp is)) (evDs kp r tk s)
def iter(f:St→Option (Ex×St)):Nat→St→Option (Ex×St)
 |0,_=>none
 |n+1,s=>match f s with
  |some (.norm,s')=>iter f n s'
  |r=>r
def datC(s:St):C→C
 | .ref r=>match look s.rw r with
  |some x=>.d (.list x.k x.fl x.es)
  |none=>.ref r
 |c=>c
def datS(s:St)(d:Nat):Option St:=
 match s.get d with
 | .ref r=>match look s.rw r with
  |some x=>some ((shareAll s [r]).put (some d) (.d (.list x.k x.fl x.es)))
  |none=>none
 | .ptr b 0=>match look s.bx b with
  |some cs=>some ((shareAll s (rowsOf cs)).setBox b (cs.map (datC s)))
  |none=>some s
 |_=>some s
noncomputable def evC(n:Nat):K→St→Option (Ex×St)
 | .skip,s=>some (.norm,s)
 | .reg ops kp,s=>match evOps cf mf ops s with
  |some s'=>some (.norm,s'.keep kp)
  |none=>none
 | .drw ops kp,s=>match evDs cf mf kp ops [] s with
  |some s'=>some (.norm,s')
  |none=>none
 | .seq a b,s=>match evC n a s with
  |some (.norm,s')=>evC n b s'
  |r=>r
 | .cond c a b,s=>match evX s c with
  | .d (.bool t)=>if t then evC n a s else evC n b s
  |_=>none
 | .block id a,s=>match evC n a s with
  |some (.exit i,s')=>if i=id then some (.norm,s') else some (.exit i,s')
  |r=>r
 | .loop a,s=>iter (evC n a) n s
 | .exit id,s=>some (.exit id,s)
 | .ret,s=>some (.ret,s)
 | .share r a,s=>evC n a (shareAll s [r])
 | .dat d a,s=>match datS s d with
  |some s'=>evC n a s'
  |none=>none
end
inductive KR where
 |t (d:Nat)
 |c (d n:Nat)
structure KF where
 np:Nat
 body:K
 res:List KR
def enterA(p:Nat)(a:A)(s:St):St:=
 match a with
 | .val ag vs=>let (l,s'):=inCells p 0 vs s;s'.put (some p) (if ag then .agg l else l.headD .any)
 | .box vs=>let (l,s'):=inCells (p+500) 0 vs s;(s'.newBox (900+p) l).put (some p) (.ptr (900+p) 0)
def enterAs:Nat→List A→St→St
 |_,[],s=>s
 |p,a::as,s=>enterAs (p+1) as (enterA p a s)
def resA (s : St) : KR → Option (A × List Nat)
  | .t d => (mapO (wrCell s) (s.get d).cells).map fun vs => (.val (s.get d).isAgg vs, rowsOf (s.get d).cells)
  | .c d n => match s.get d with
   | .ptr b 0 => match look s.bx b with
    | some cs => if n = 0 then (match cs with
        | [c] => (mapO (wrCell s) cs).map fun vs => (.val false vs, rowsOf cs)
        | _ => none)
      else if cs.length = n then (mapO (wrCell s) cs).map fun vs => (.val true vs, rowsOf cs) else none
    | none => none
   | _ => none
def resAs(s:St):List KR→Option (List A×List Nat)
 |[]=>some ([],[])
 |r::rs=>match resA s r with
  |some (a,l)=>(resAs s rs).map fun (as,l')=>(a::as,l++l')
  |none=>none
def outA(s:St)(p:Nat):A→Option (List A×List Nat)
 | .val _ _=>some ([],[])
 | .box _=>match look s.bx (900+p) with
  |some cs=>(mapO (wrCell s) cs).map fun vs=>([.box vs],rowsOf cs)
  |none=>none
def outAs(s:St):Nat→List A→Option (List A×List Nat)
 |_,[]=>some ([],[])
 |p,a::as=>match outA s p a with
  |some (l,r)=>(outAs s (p+1) as).map fun (l',r')=>(l++l',r++r')
  |none=>none
def leave(kf:KF)(args:List A)(s:St):Option (List A×List A):=
 match resAs s kf.res,outAs s 0 args with
 |some (rs,l),some (outs,l')=>if nodupB (l++l') then some (rs,outs) else none
 |_,_=>none
noncomputable def runF(cf:Nat→List A→Option (List A×List A))(mf:Nat→Bool→List D→Int→Option (List D×Int))(n:Nat)(kf:KF)(args:List A):Option (List A×List A):=
 if args.length=kf.np then
  match evC cf mf n kf.body (enterAs 0 args ⟨[],[],[]⟩) with
  |some (.norm,s)=>leave kf args s
  |some (.ret,s)=>leave kf args s
  |_=>none
 else none
def nmI(t:ByteArray):List (List D)→Int→Option Int
 |[],_=>some (-1)
 |(.str s::_)::es,i=>if s=t then some i else nmI t es (i+1)
 |_,_=>none
def XT(f:Nat)(as:List A):Option (List A×List A):=
 if f=9001 then (match as with
  |[.val false [.d (.int .i64 n)]]=>some ([.val false [.d (.str ⟨(Lib.itoa n).toArray⟩)]],[])
  |_=>none)
 else if f=9002 then (match as with
  |[.val false [.d (.str s)],.val false [.d (.int .u8 c)]]=>some ([.val false [.d (.int .i64 (Lib.indexByte s.data.toList c.toNat.toUInt8))]],[])
  |_=>none)
 else if f=9003 then (match as with
  |[.val false [.d (.list 3 fl es)],.val false [.d (.str t)]]=>(nmI t es 0).map fun i=>([.val false [.d (.int .i64 i)]],[])
  |_=>none)
 else none
noncomputable def evF(T:Nat→Option KF):Nat→Nat→List A→Option (List A×List A)
 |0,_,_=>none
 |n+1,f,args=>match T f with
  |none=>none
  |some kf=>if kf.np=999 then XT f args else runF (evF T n) (fun _ _ _ _=>none) n kf args
abbrev i_(d:Nat)(o:KO):KI:=⟨some d,o,none⟩
abbrev n_(o:KO):KI:=⟨none,o,none⟩
abbrev g_(d g:Nat)(w:Bool)(o:KO):KI:=⟨some d,o,some (g,w)⟩
abbrev S_(d:Nat):KX:=.s d
abbrev Z_(n:Int):KX:=.k (.d (.int .i64 n))
end
section
open Go.RowKit
inductive Own where
 |free
 |box (b:Nat)
 |row (r:Nat)
 |lim
 deriving DecidableEq
structure Gh where
 h:Nat→Nat
 β:Nat→Nat
 sl:Nat→Value
 ω:Nat→Own
def Settled(h:Nat→Nat)(F:Fp):Prop:=∀be∈F,be.2≤h be.1
def Thaw(w:World)(g:Nat):Prop:=g < w.heap.size∧∀j,w.frozen? ⟨g,j,none⟩=false
mutual
def CR(γ:Gh)(w:World):C→Value→Prop
 | .d x,v=>∃F,Rp w x v F∧Settled γ.h F
 | .nil k _,v=>v=.slice none 0 0∧0 < k
 | .ref r,v=>v=γ.sl r∧∃A n c,v=.slice A n c
 | .ptr b o,v=>v=.pointer (some ⟨γ.β b,o,none⟩)
 | .ept r k i o,v=>∃g p n c,γ.sl r=.slice (some ⟨g,p,none⟩) n c∧v=.pointer (some ⟨g,p+i * k+o,none⟩)
 | .dpt cs,v=>∃b o vs F,v=.pointer (some ⟨b,o,none⟩)∧RpC w cs vs F∧Settled γ.h F∧Lies w b o vs∧∀j,j < cs.length→o+j < γ.h b
 | .agg cs,v=>∃vs,v=.agg vs.toArray∧CRs γ w cs vs
 | .tup cs,v=>∃vs,v=.tuple vs.toArray∧CRs γ w cs vs
 | .und,v=>v=undef
 | .any,_=>True
def CRs(γ:Gh)(w:World):List C→List Value→Prop
 |[],vs=>vs=[]
 |c::cs,vs=>∃v vs',vs=v::vs'∧CR γ w c v∧CRs γ w cs vs'
end
def RowR(h:Nat→Nat)(w:World)(x:Row)(v:Value)(F:List Nat):Prop:=
 ∃A n c,v=.slice A n c∧n=x.es.length∧n≤c∧c≤maxLen∧0 < x.k∧(∀e∈x.es,e.length=x.k)∧(x.fl=true→flat x.es)∧
  ((A=none∧c=0∧F=[])∨
   ∃g o xs G,A=some ⟨g,o,none⟩∧g < w.heap.size∧Thaw w g∧RpE w x.es xs G∧Lies w g o xs∧h g≤o+n * x.k∧(x.fz=false→h g=0)∧
    (x.app=true→o=0∧∃T vs,Blk w g T vs∧vs.length=c * x.k)∧
    (x.deep=true→F=g::G.map Prod.fst∧∀be∈G,h be.1=0∧Thaw w be.1)∧(x.deep=false→F=[g]∧Settled h G))
structure Inv (γ:Gh) (h0:Nat→Nat) (io:List Nat) (w0:World) (s:St) (f:Fm) (w:World):Prop where
 sl:∀d c,look s.sl d=some c→CR γ w c (f d)
 bx:∀b cs,look s.bx b=some cs→∃T vs,Blk w (γ.β b) T vs∧CRs γ w cs vs∧γ.ω (γ.β b)=.box b
 rw:∀r x,look s.rw r=some x→∃F,RowR γ.h w x (γ.sl r) F∧F.Nodup∧∀g∈F,γ.ω g=.row r
 own:∀g,γ.ω g≠.free→g < w.heap.size∧(w0.heap.size≤g∨g∈io)
 hbox:∀g b,γ.ω g=.box b→γ.h g=0
 hnew:∀g,w.heap.size≤g→γ.h g=0
 os:w.os=w0.os
 tape:w.tape=w0.tape
 output:w.output=w0.output
 size:w0.heap.size≤w.heap.size
 frame:∀g,g < w0.heap.size→g∉io→w.heap[g]?=w0.heap[g]?
 cell:∀g j,g < w0.heap.size→j < h0 g→w.cell? ⟨g,j,none⟩=w0.cell? ⟨g,j,none⟩
 mono:∀g,g < w0.heap.size→h0 g≤γ.h g
 hold:∀g,g < w0.heap.size→g∉io→γ.h g=h0 g
 kthaw:∀g,Thaw w0 g→Thaw w g
section
variable {α:Type}
theorem look_drp(l:List (Nat×α))(d e:Nat):look (drp l d) e=if d=e then none else look l e:=by
 induction l with
 |nil=>simp[drp,look]
 |cons p l ih=>
  obtain⟨k,x⟩:=p;unfold drp at ih ⊢;by_cases h:k=d
  ·subst h;simp only[List.filter_cons,bne_self_eq_false,Bool.false_eq_true,if_false,ih,look];by_cases h2:k=e<;>simp[h2]
  ·have h':(k !=d)=true:=by simp[h]
   simp only[List.filter_cons,h',if_true,look,ih];by_cases h2:k=e
   ·subst h2;simp[Ne.symm h]
   ·simp[h2]
theorem look_keep(l:List (Nat×α)):∀(ds:List Nat) (e:Nat) (x:α),look (keepL l ds) e=some x→look l e=some x
 |[],e,x,h=>by simp[keepL,look]at h
 |d::ds,e,x,h=>by
  unfold keepL at h;cases hd:look l d with
  |none=>rw[hd]at h;exact look_keep l ds e x h
  |some y=>
   rw[hd]at h;simp only[look]at h
   split at h
   ·rename_i he;subst he;rw[hd];exact h
   ·exact look_keep l ds e x h
end
theorem look_killS(i:Nat)(l:List (Nat×C))(d:Nat):look (killS i l) d=(look l d).map (C.kill i):=by
 induction l with
 |nil=>rfl
 |cons p l ih=>
  obtain⟨k,x⟩:=p;unfold killS at ih ⊢;simp only[List.map_cons,look,ih]
  split<;>rfl
theorem look_killB(i:Nat)(l:List (Nat×List C))(d:Nat):look (killB i l) d=(look l d).map (C.kills i):=by
 induction l with
 |nil=>rfl
 |cons p l ih=>
  obtain⟨k,x⟩:=p;unfold killB at ih ⊢;simp only[List.map_cons,look,ih]
  split<;>rfl
theorem Settled.mono{h h':Nat→Nat}{F:Fp}(hs:Settled h F)(hh:∀g,h g≤h' g):Settled h' F:=fun be hb=>Nat.le_trans (hs be hb) (hh _)
theorem Settled.keeps{h:Nat→Nat}{F:Fp}{w w':World}(hs:Settled h F)(hc:∀g j,j < h g→w'.cell? ⟨g,j,none⟩=w.cell? ⟨g,j,none⟩):Keeps F w w':=
 fun be hb j hj=>hc _ j (Nat.lt_of_lt_of_le hj (hs be hb))
theorem Settled.sub{h:Nat→Nat}{F G:Fp}(hs:Settled h F)(hg:∀be∈G,be∈F):Settled h G:=fun be hb=>hs be (hg be hb)
theorem Settled.append{h:Nat→Nat}{F G:Fp}(hs:Settled h F)(hg:Settled h G):Settled h (F++G):=fun be hb=>by
 rcases List.mem_append.1 hb with hb|hb
 ·exact hs be hb
 ·exact hg be hb
mutual
theorem CR.move{γ γ':Gh}{w w':World}(i:Nat)(hh:∀g,γ.h g≤γ'.h g)(hc:∀g j,j < γ.h g→w'.cell? ⟨g,j,none⟩=w.cell? ⟨g,j,none⟩)(hβ:∀b,b≠i→γ'.β b=γ.β b)(hsl:∀r,r≠i→γ'.sl r=γ.sl r) :
  ∀(c:C) {v:Value},CR γ w c v→CR γ' w' (C.kill i c) v
 | .d x,v,h=>by
  simp only[CR,C.kill]at h ⊢;obtain⟨F,h1,h2⟩:=h;exact⟨F,h1.keep x (h2.keeps hc),h2.mono hh⟩
 | .nil _ _,v,h=>by simpa only [CR,C.kill] using h
 | .ref r,v,h=>by
  simp only[C.kill];split
  ·simp only[CR]
  ·rename_i hr;simp only[CR]at h ⊢;rw[hsl r hr];exact h
 | .ptr b o,v,h=>by
  simp only[C.kill];split
  ·simp only[CR]
  ·rename_i hr;simp only[CR]at h ⊢;rw[hβ b hr];exact h
 | .ept r k a o,v,h=>by
  simp only[C.kill];split
  ·simp only[CR]
  ·rename_i hr;simp only[CR]at h ⊢;rw[hsl r hr];exact h
 | .dpt cs,v,h=>by
  simp only[CR,C.kill]at h ⊢;obtain⟨b,o,vs,F,h1,h2,h3,h4,h5⟩:=h;refine⟨b,o,vs,F,h1,h2.keep cs (h3.keeps hc),h3.mono hh,?_,fun j hj=>Nat.lt_of_lt_of_le (h5 j hj) (hh b)⟩;intro j u hu;have hj:=(List.getElem?_eq_some_iff.1 hu).1;rw[RpC.length cs h2]at hj;rw[hc b (o+j) (h5 j hj)];exact h4 j u hu
 | .agg cs,v,h=>by
  simp only[CR,C.kill]at h ⊢;obtain⟨vs,h1,h2⟩:=h;exact⟨vs,h1,CRs.move i hh hc hβ hsl cs h2⟩
 | .tup cs,v,h=>by
  simp only[CR,C.kill]at h ⊢;obtain⟨vs,h1,h2⟩:=h;exact⟨vs,h1,CRs.move i hh hc hβ hsl cs h2⟩
 | .und,v,h=>by simpa only [CR,C.kill] using h
 | .any,v,h=>by simp only[CR,C.kill]
theorem CRs.move{γ γ':Gh}{w w':World}(i:Nat)(hh:∀g,γ.h g≤γ'.h g)(hc:∀g j,j < γ.h g→w'.cell? ⟨g,j,none⟩=w.cell? ⟨g,j,none⟩)(hβ:∀b,b≠i→γ'.β b=γ.β b)(hsl:∀r,r≠i→γ'.sl r=γ.sl r) :
  ∀(cs:List C) {vs:List Value},CRs γ w cs vs→CRs γ' w' (C.kills i cs) vs
 |[],vs,h=>by simpa only [CRs,C.kills] using h
 |c::cs,vs,h=>by
  simp only[CRs,C.kills]at h ⊢;obtain⟨v,vs',h1,h2,h3⟩:=h;exact⟨v,vs',h1,CR.move i hh hc hβ hsl c h2,CRs.move i hh hc hβ hsl cs h3⟩
end
mutual
theorem CR.mono{γ γ':Gh}{w w':World}(hh:∀g,γ.h g≤γ'.h g)(hc:∀g j,j < γ.h g→w'.cell? ⟨g,j,none⟩=w.cell? ⟨g,j,none⟩)(hβ:γ'.β=γ.β)(hsl:γ'.sl=γ.sl) :
  ∀(c:C) {v:Value},CR γ w c v→CR γ' w' c v
 | .d x,v,h=>by
  simp only[CR]at h ⊢;obtain⟨F,h1,h2⟩:=h;exact⟨F,h1.keep x (h2.keeps hc),h2.mono hh⟩
 | .nil _ _,v,h=>by simpa only [CR] using h
 | .ref r,v,h=>by simp only[CR]at h ⊢;rw[hsl];exact h
 | .ptr b o,v,h=>by simp only[CR]at h ⊢;rw[hβ];exact h
 | .ept r k a o,v,h=>by simp only[CR]at h ⊢;rw[hsl];exact h
 | .dpt cs,v,h=>by
  simp only[CR]at h ⊢;obtain⟨b,o,vs,F,h1,h2,h3,h4,h5⟩:=h;refine⟨b,o,vs,F,h1,h2.keep cs (h3.keeps hc),h3.mono hh,?_,fun j hj=>Nat.lt_of_lt_of_le (h5 j hj) (hh b)⟩;intro j u hu;have hj:=(List.getElem?_eq_some_iff.1 hu).1;rw[RpC.length cs h2]at hj;rw[hc b (o+j) (h5 j hj)];exact h4 j u hu
 | .agg cs,v,h=>by
  simp only[CR]at h ⊢;obtain⟨vs,h1,h2⟩:=h;exact⟨vs,h1,CRs.mono hh hc hβ hsl cs h2⟩
 | .tup cs,v,h=>by
  simp only[CR]at h ⊢;obtain⟨vs,h1,h2⟩:=h;exact⟨vs,h1,CRs.mono hh hc hβ hsl cs h2⟩
 | .und,v,h=>by simpa only [CR] using h
 | .any,v,h=>by simp only[CR]
theorem CRs.mono{γ γ':Gh}{w w':World}(hh:∀g,γ.h g≤γ'.h g)(hc:∀g j,j < γ.h g→w'.cell? ⟨g,j,none⟩=w.cell? ⟨g,j,none⟩)(hβ:γ'.β=γ.β)(hsl:γ'.sl=γ.sl) :
  ∀(cs:List C) {vs:List Value},CRs γ w cs vs→CRs γ' w' cs vs
 |[],vs,h=>by simpa only [CRs] using h
 |c::cs,vs,h=>by
  simp only[CRs]at h ⊢;obtain⟨v,vs',h1,h2,h3⟩:=h;exact⟨v,vs',h1,CR.mono hh hc hβ hsl c h2,CRs.mono hh hc hβ hsl cs h3⟩
end
theorem RowR.keep{h h':Nat→Nat}{w w':World}{x:Row}{v:Value}{F:List Nat}(hr:RowR h w x v F)(hF:∀g∈F,h' g=h g∧w'.heap[g]?=w.heap[g]?)(hh:∀g,h g≤h' g)(hc:∀g j,j < h g→w'.cell? ⟨g,j,none⟩=w.cell? ⟨g,j,none⟩):RowR h' w' x v F:=by
 obtain⟨A,n,c,h1,h2,h3,h4,h5,h6,h7,h8⟩:=hr;refine⟨A,n,c,h1,h2,h3,h4,h5,h6,h7,?_⟩;rcases h8 with h8|⟨g,o,xs,G,a1,a2,a3,a4,a5,a6,a7,a8,a9,a10⟩
 ·exact .inl h8
 ·have hg:g∈F:=by
   cases hd:x.deep with
   |true=>rw[(a9 hd).1];simp
   |false=>rw[(a10 hd).1];simp
  have hb:=(hF g hg).2;have hk:Keeps G w w':=by
   cases hd:x.deep with
   |false=>exact (a10 hd).2.keeps hc
   |true=>
    intro be hbe j _;exact World.cell?_of_block (w:=w) (hF be.1 (by rw[(a9 hd).1];simp;exact .inr ⟨be.2,hbe⟩)).2
  refine .inr ⟨g,o,xs,G,a1,lt_keep a2 hb,?_,a4.keep _ hk,a5.keep hb,by rw[(hF g hg).1];exact a6,fun hz=>by rw[(hF g hg).1];exact a7 hz,?_,?_,?_⟩
  ·exact⟨lt_keep a2 hb,fun j=>by rw[World.frozen?_of_block (w:=w) hb];exact a3.2 j⟩
  ·intro ha;obtain⟨ho,T,vs,hv,hl⟩:=a8 ha;exact⟨ho,T,vs,hv.keep hb,hl⟩
  ·intro hd;obtain⟨e,hz⟩:=a9 hd;refine⟨e,fun be hbe=>?_⟩;have hm:=hF be.1 (by rw[e];simp;exact .inr ⟨be.2,hbe⟩);refine⟨by rw[hm.1];exact (hz be hbe).1,lt_keep (hz be hbe).2.1 hm.2,fun j=>?_⟩;rw[World.frozen?_of_block (w:=w) hm.2];exact (hz be hbe).2.2 j
  ·intro hd;obtain⟨e,hz⟩:=a10 hd;exact⟨e,hz.mono hh⟩
structure Adv (γ:Gh) (M:Own→Prop) (w w':World):Prop where
 os:w'.os=w.os
 tape:w'.tape=w.tape
 output:w'.output=w.output
 size:w.heap.size≤w'.heap.size
 block:∀g,g < w.heap.size→¬M (γ.ω g)→w'.heap[g]?=w.heap[g]?
 cell:∀g j,j < γ.h g→w'.cell? ⟨g,j,none⟩=w.cell? ⟨g,j,none⟩
 kthaw:∀g,Thaw w g→Thaw w' g
section
variable {γ:Gh} {h0:Nat→Nat} {io:List Nat} {w0:World} {s:St} {f:Fm} {w:World}
theorem Inv.hcell(hi:Inv γ h0 io w0 s f w){w':World}{M:Own→Prop}(ha:Adv γ M w w'):∀g j,j < γ.h g→w'.cell? ⟨g,j,none⟩=w.cell? ⟨g,j,none⟩:=ha.cell
theorem Inv.adv(hi:Inv γ h0 io w0 s f w){w':World}{M:Own→Prop}(ha:Adv γ M w w')(hf:¬M .free)(hb:∀b,M (.box b)→look s.bx b=none)(hr:∀r,M (.row r)→look s.rw r=none):Inv γ h0 io w0 s f w' where
 sl d c hl:=(hi.sl d c hl).mono (γ':=γ) (fun _=>Nat.le_refl _) ha.cell rfl rfl c
 bx b cs hl:=by
  obtain⟨T,vs,h1,h2,h3⟩:=hi.bx b cs hl;refine⟨T,vs,h1.keep (ha.block _ h1.lt ?_),h2.mono (γ':=γ) (fun _=>Nat.le_refl _) ha.cell rfl rfl cs,h3⟩;rw[h3];intro hm;rw[hb b hm]at hl;cases hl
 rw r x hl:=by
  obtain⟨F,h1,h2,h3⟩:=hi.rw r x hl;refine⟨F,h1.keep (fun g hg=>⟨rfl,ha.block g (hi.own g (by rw[h3 g hg];simp)).1 ?_⟩) (fun _=>Nat.le_refl _) ha.cell,h2,h3⟩;rw[h3 g hg];intro hm;rw[hr r hm]at hl;cases hl
 own g hg:=⟨Nat.lt_of_lt_of_le (hi.own g hg).1 ha.size,(hi.own g hg).2⟩
 hbox:=hi.hbox
 hnew g hg:=hi.hnew g (Nat.le_trans ha.size hg)
 os:=ha.os.trans hi.os
 tape:=ha.tape.trans hi.tape
 output:=ha.output.trans hi.output
 size:=Nat.le_trans hi.size ha.size
 frame g hg hn:=by
  refine (ha.block g (Nat.lt_of_lt_of_le hg hi.size) ?_).trans (hi.frame g hg hn);have:γ.ω g=.free:=by
   rcases Decidable.em (γ.ω g=.free) with h|h
   ·exact h
   ·rcases (hi.own g h).2 with h'|h'
    ·omega
    ·exact absurd h' hn
  rw[this];exact hf
 cell g j hg hj:=(ha.cell g j (Nat.lt_of_lt_of_le hj (hi.mono g hg))).trans (hi.cell g j hg hj)
 mono:=hi.mono
 hold:=hi.hold
 kthaw g hg:=ha.kthaw g (hi.kthaw g hg)
theorem Inv.sub(hi:Inv γ h0 io w0 s f w){s':St}(h1:∀d c,look s'.sl d=some c→look s.sl d=some c)(h2:∀d c,look s'.bx d=some c→look s.bx d=some c)(h3:∀d c,look s'.rw d=some c→look s.rw d=some c):Inv γ h0 io w0 s' f w:=
 {hi with sl:=fun d c h=>hi.sl d c (h1 d c h),bx:=fun d c h=>hi.bx d c (h2 d c h),rw:=fun d c h=>hi.rw d c (h3 d c h) }
theorem Inv.get(hi:Inv γ h0 io w0 s f w)(d:Nat):CR γ w (s.get d) (f d):=by
 unfold St.get;cases h:look s.sl d with
 |none=>simp[CR]
 |some c=>exact hi.sl d c h
theorem Inv.put(hi:Inv γ h0 io w0 s f w)(d:Nat)(c:C)(v:Value)(hc:CR γ w c v):Inv γ h0 io w0 (s.put (some d) c) (upd f d v) w:=
 {hi with
  sl:=fun e c' h=>by
   simp only[St.put,look]at h;by_cases he:d=e
   ·subst he;simp at h;subst h
    simpa [upd] using hc
   ·rw[if_neg he]at h;have:upd f d v e=f e:=by
     unfold upd;cases hb:Nat.beq e d
     ·rfl
     ·exact absurd (Nat.eq_of_beq_eq_true hb).symm he
    rw[this];exact hi.sl e c' h }
theorem Inv.settle(hi:Inv γ h0 io w0 s f w){h':Nat→Nat}{ω':Nat→Own}(hh:∀g,γ.h g≤h' g)(hs:∀g,h' g≠γ.h g→g < w.heap.size∧(w0.heap.size≤g∨g∈io)∧(∀b cs,look s.bx b=some cs→γ.ω g≠.box b)∧∀r x,look s.rw r=some x→γ.ω g≠.row r)
  (hω:∀g,ω' g=γ.ω g∨((ω' g=.free∨ω' g=.lim)∧γ.ω g≠.free∧(∀b cs,look s.bx b=some cs→γ.ω g≠.box b)∧∀r x,look s.rw r=some x→γ.ω g≠.row r)) (hb:∀g b,ω' g=.box b→h' g=0):Inv {γ with h:=h',ω:=ω' } h0 io w0 s f w where
 sl d c hl:=(hi.sl d c hl).mono (γ':={γ with h:=h',ω:=ω' }) hh (fun _ _ _=>rfl) rfl rfl c
 bx b cs hl:=by
  obtain⟨T,vs,h1,h2,h3⟩:=hi.bx b cs hl;refine⟨T,vs,h1,h2.mono (γ':={γ with h:=h',ω:=ω' }) hh (fun _ _ _=>rfl) rfl rfl cs,?_⟩;rcases hω (γ.β b) with h|⟨_,_,h,_⟩
  ·exact h.trans h3
  ·exact absurd h3 (h b cs hl)
 rw r x hl:=by
  obtain⟨F,h1,h2,h3⟩:=hi.rw r x hl;refine⟨F,h1.keep (fun g hg=>⟨?_,rfl⟩) hh (fun _ _ _=>rfl),h2,fun g hg=>?_⟩
  ·rcases Decidable.em (h' g=γ.h g) with h|h
   ·exact h
   ·exact absurd (h3 g hg) ((hs g h).2.2.2 r x hl)
  ·rcases hω g with h|⟨_,_,_,h⟩
   ·exact h.trans (h3 g hg)
   ·exact absurd (h3 g hg) (h r x hl)
 own g hg:=by
  rcases hω g with h|⟨_,h,_⟩
  ·exact hi.own g (by rw[← h];exact hg)
  ·exact hi.own g h
 hbox:=hb
 hnew g hg:=by
  rcases Decidable.em (h' g=γ.h g) with h|h
  ·exact h.trans (hi.hnew g hg)
  ·have:=(hs g h).1;omega
 os:=hi.os
 tape:=hi.tape
 output:=hi.output
 size:=hi.size
 frame:=hi.frame
 cell:=hi.cell
 mono g hg:=Nat.le_trans (hi.mono g hg) (hh g)
 hold g hg hn:=by
  rcases Decidable.em (h' g=γ.h g) with h|h
  ·exact h.trans (hi.hold g hg hn)
  ·rcases (hs g h).2.1 with h'|h'
   ·omega
   ·exact absurd h' hn
 kthaw:=hi.kthaw
end
end
section
open Go.RowKit
def okX(N:Nat):Operand→KX→Bool
 | .tmp d,.s d'=>d ==d' && Nat.blt d N
 | .const (.int k n),.k (.d (.int k' n'))=>k ==k' && n ==n' && k.wrap n ==n
 | .const (.bool b),.k (.d (.bool b'))=>b ==b'
 | .const (.string s),.k (.d (.str s'))=>s.data.toList ==s'.data.toList && Nat.ble s.size maxLen
 | .const (.slice none 0 0),.k (.nil k _)=>Nat.blt 0 k
 |_,_=>false
section
variable {γ:Gh} {h0:Nat→Nat} {io:List Nat} {w0:World} {s:St} {f:Fm} {w:World} {N:Nat}
theorem rp_int{k:IntKind}{n:Int}(h:k.wrap n=n):CR γ w (.d (.int k n)) (.int k n):=by
 simp only[CR,Rp];exact⟨[],by simp[h],fun _ h=>by simp at h⟩
theorem rp_bool{b:Bool}:CR γ w (.d (.bool b)) (.bool b):=by
 simp only[CR,Rp];exact⟨[],by simp,fun _ h=>by simp at h⟩
theorem rp_str{t:ByteArray}(h:t.size≤maxLen):CR γ w (.d (.str t)) (.string t):=by
 simp only[CR,Rp];exact⟨[],by simp[h],fun _ h=>by simp at h⟩
theorem cr_int{k:IntKind}{n:Int}{v:Value}(h:CR γ w (.d (.int k n)) v):v=.int k n∧k.wrap n=n:=by
 simp only[CR,Rp]at h;obtain⟨_,⟨h1,_,h2⟩,_⟩:=h;exact⟨h1,h2⟩
theorem cr_bool{b:Bool}{v:Value}(h:CR γ w (.d (.bool b)) v):v=.bool b:=by
 simp only[CR,Rp]at h;obtain⟨_,⟨h1,_⟩,_⟩:=h;exact h1
theorem cr_str{t:ByteArray}{v:Value}(h:CR γ w (.d (.str t)) v):v=.string t∧t.size≤maxLen:=by
 simp only[CR,Rp]at h;obtain⟨_,⟨h1,_,h2⟩,_⟩:=h;exact⟨h1,h2⟩
theorem str_ext{a b:ByteArray}(h:a.data.toList=b.data.toList):a=b:=by
 cases a;cases b;simp at h;simp[h]
theorem evX_rel(hi:Inv γ h0 io w0 s f w){x:Operand}{kx:KX}(ok:okX N x kx=true):CR γ w (evX s kx) ((fr f N).eval x):=by
 unfold okX at ok
 split at ok
 ·simp only[Bool.and_eq_true,beq_iff_eq]at ok;obtain⟨rfl,hd⟩:=ok;rw[fr_eval f (by simpa using hd)];exact hi.get _
 ·simp only[Bool.and_eq_true,beq_iff_eq]at ok;obtain⟨⟨rfl,rfl⟩,hw⟩:=ok;exact rp_int hw
 ·simp only[beq_iff_eq]at ok;subst ok;exact rp_bool
 ·simp only[Bool.and_eq_true,beq_iff_eq,Nat.ble_eq]at ok;obtain⟨he,hw⟩:=ok;rw[str_ext he]at hw ⊢;exact rp_str hw
 ·simp only[Nat.blt_eq]at ok;simp only[evX,CR];exact⟨rfl,ok⟩
 ·cases ok
end
structure Sames (γ:Gh) (s:St) (w w':World):Prop where
 cell:∀g j,j < γ.h g→w'.cell? ⟨g,j,none⟩=w.cell? ⟨g,j,none⟩
 bx:∀b cs,look s.bx b=some cs→w'.heap[γ.β b]?=w.heap[γ.β b]?
 rw:∀r x,look s.rw r=some x→∀g,γ.ω g=.row r→w'.heap[g]?=w.heap[g]?
theorem Sames.refl(γ:Gh)(s:St)(w:World):Sames γ s w w:=⟨fun _ _ _=>rfl,fun _ _ _=>rfl,fun _ _ _ _ _=>rfl⟩
def okXs(N:Nat):List Operand→List KX→Bool
 |[],[]=>true
 |x::xs,y::ys=>okX N x y && okXs N xs ys
 |_,_=>false
theorem okXs_rel{γ:Gh}{h0:Nat→Nat}{io:List Nat}{w0:World}{s:St}{f:Fm}{w:World}{N:Nat}(hi:Inv γ h0 io w0 s f w):∀(xs:List Operand) (ys:List KX),okXs N xs ys=true→CRs γ w (ys.map (evX s)) (xs.map (fr f N).eval)
 |[],[],_=>by simp[CRs]
 |[],_::_,h=>by simp[okXs]at h
 |_::_,[],h=>by simp[okXs]at h
 |x::xs,y::ys,h=>by
  simp only[okXs,Bool.and_eq_true]at h;simp only[List.map_cons,CRs];exact⟨_,_,rfl,evX_rel hi h.1,okXs_rel hi xs ys h.2⟩
def okZ:Value→C→Bool
 | .int k n,.d (.int k' n')=>k ==k' && n ==n' && k.wrap n ==n
 | .bool b,.d (.bool b')=>b ==b'
 | .string s,.d (.str s')=>s.data.toList ==s'.data.toList && Nat.ble s.size maxLen
 | .slice none 0 0,.nil k _=>Nat.blt 0 k
 |_,_=>false
def okZs:List Value→List C→Bool
 |[],[]=>true
 |v::vs,c::cs=>okZ v c && okZs vs cs
 |_,_=>false
theorem okZs_rel{γ:Gh}{w:World}:∀(vs:List Value) (cs:List C),okZs vs cs=true→CRs γ w cs vs
 |[],[],_=>by simp[CRs]
 |[],_::_,h=>by simp[okZs]at h
 |_::_,[],h=>by simp[okZs]at h
 |v::vs,c::cs,h=>by
  simp only[okZs,Bool.and_eq_true]at h;simp only[CRs];refine⟨v,vs,rfl,?_,okZs_rel vs cs h.2⟩;have ok:=h.1;unfold okZ at ok
  split at ok
  ·simp only[Bool.and_eq_true,beq_iff_eq]at ok;obtain⟨⟨rfl,rfl⟩,hw⟩:=ok;exact rp_int hw
  ·simp only[beq_iff_eq]at ok;subst ok;exact rp_bool
  ·simp only[Bool.and_eq_true,beq_iff_eq,Nat.ble_eq]at ok;obtain⟨he,hw⟩:=ok;rw[str_ext he]at hw ⊢;exact rp_str hw
  ·simp only[Nat.blt_eq]at ok;simp only[CR];exact⟨trivial,ok⟩
  ·cases ok
def aggB(P:Program)(T:TypeId):Option Bool:=
 match P.underlying T with
 |some (.struct _)=>some true
 |some (.array _ _)=>some true
 |some _=>some false
 |none=>none
def sizeB(P:Program)(T:TypeId):Option Nat:=(P.info? T).map (·.size)
theorem run_isAgg{P:Program}{T:TypeId}{b:Bool}(h:aggB P T=some b)(w:World):(isAgg T).run P w=.ok b w:=by
 unfold aggB at h;cases hu:P.underlying T with
 |none=>rw[hu]at h;cases h
 |some d=>
  rw[hu]at h;cases d<;>simp at h<;>subst h<;>simp[isAgg,run_underlying hu]
theorem run_sizeOf{P:Program}{T:TypeId}{n:Nat}(h:sizeB P T=some n)(w:World):(Go.sizeOf T).run P w=.ok n w:=by
 unfold sizeB at h;cases hu:P.info? T with
 |none=>rw[hu]at h;cases h
 |some i=>
  rw[hu]at h;simp at h;subst h;simp[Go.sizeOf,typeInfo,hu]
def fieldB(P:Program)(T:TypeId)(i o:Nat):Bool:=
 match P.underlying T with
 |some (.struct fs)=>match fs[i]? with
  |some fd=>fd.offset ==o && (match sizeB P fd.type with
   |some n=>Nat.blt 0 n
   |none=>false)
  |none=>false
 |_=>false
def sliceB(P:Program)(T:TypeId)(k:Nat):Bool:=
 match P.underlying T with
 |some (.slice E)=>sizeB P E ==some k
 |_=>false
def arrB(P:Program)(T:TypeId)(n k:Nat):Bool:=
 match P.underlying T with
 |some (.array m E)=>m ==n && sizeB P E ==some k
 |_=>false
def arrE(P:Program)(T:TypeId):Bool:=
 match P.underlying T with
 |some (.array _ E)=>(P.info? E).isSome
 |_=>false
def isStr(P:Program)(T:TypeId):Bool:=
 match P.underlying T with
 |some .string=>true
 |_=>false
def isSl(P:Program)(T:TypeId):Bool:=
 match P.underlying T with
 |some (.slice _)=>true
 |_=>false
def sliceZ(P:Program)(T:TypeId):Option Nat:=
 match P.underlying T with
 |some (.slice E)=>sizeB P E
 |_=>none
def isBy(P:Program)(T:TypeId):Bool:=
 match P.underlying T with
 |some (.slice E)=>(match P.underlying E with
  |some (.int .u8)=>true
  |_=>false)
 |_=>false
def isBool(P:Program)(T:TypeId):Bool:=
 match P.underlying T with
 |some .bool=>true
 |_=>false
def intB(P:Program)(T:TypeId):Option IntKind:=
 match P.underlying T with
 |some (.int k)=>some k
 |_=>none
def placesB(P:Program)(T:TypeId):Option (List (Nat×Nat)):=
 match P.underlying T with
 |some (.struct fs)=>fs.toList.mapM (fun f=>(P.info? f.type).map fun i=>(f.offset,i.size))
 |_=>none
def zeroB(P:Program)(T:TypeId):Option (List Value):=((P.info? T).bind (·.zero)).map fun z=>z.cells.toList
def okParts(N:Nat)(pl:List (Nat×Nat)):List (Nat×Operand)→List (Nat×Nat×KX)→Bool
 |[],[]=>true
 |(i,x)::ps,(o,n,kx)::ks=>pl[i]? ==some (o,n) && okX N x kx && okParts N pl ps ks
 |_,_=>false
def okOX(N:Nat):Option Operand→Option KX→Bool
 |none,none=>true
 |some x,some y=>okX N x y
 |_,_=>false
theorem optI_rel{γ:Gh}{h0:Nat→Nat}{io:List Nat}{w0:World}{s:St}{f:Fm}{w:World}{N:Nat}(hi:Inv γ h0 io w0 s f w){o:Option Operand}{kx:Option KX}{z m:Nat}(hok:okOX N o kx=true)(he:optI s kx z=some m):Bnd (fr f N).eval o z m:=by
 cases o with
 |none=>
  cases kx with
  |none=>simp only[optI,Option.some.injEq]at he;simp only[Bnd];exact he.symm
  |some y=>simp[okOX]at hok
 |some x=>
  cases kx with
  |none=>simp[okOX]at hok
  |some y=>
   simp only[okOX]at hok;have hr:=evX_rel hi hok;simp only[optI]at he
   split at he
   ·rename_i n hn;rw[hn]at hr;obtain⟨hv,_⟩:=cr_int hr
    split at he
    ·rename_i h0;simp only[Option.some.injEq]at he;subst he;simp only[Bnd,hv]
     congr 1
     omega
    ·cases he
   ·cases he
def okP(P:Program)(N:Nat):Op→KO→Bool
 | .move x,.mv y=>okX N x y
 | .assign x,.mv y=>okX N x y
 | .pick c a b,.pick c' a' b'=>okX N c c' && okX N a a' && okX N b b'
 | .build T ps,.build zs ks=>(match zeroB P T,placesB P T with
   |some z,some pl=>okZs z zs && okParts N pl ps.toList ks
   |_,_=>false)
 | .load T x,.ld n y=>okX N x y && (if n=0 then aggB P T ==some false else aggB P T ==some true && sizeB P T ==some n)
 | .fieldAddr T x i,.fa o y=>okX N x y && fieldB P T i o
 | .indexAddr T x i,.ia k y j=>okX N x y && okX N i j && sliceB P T k
 | .build T ps,.zro zs=>ps.isEmpty && arrE P T && (match zeroB P T with
   |some z=>okZs z zs
   |none=>false)
 | .indexAddr T x i,.ixa n k y j=>okX N x y && okX N i j && arrB P T n k
 | .index T x i,.six y j=>okX N x y && okX N i j && isStr P T
 | .binOp op T x y _,.bin op' x' y'=>decide (op=op') && okX N x x' && okX N y y'
 | .binOp op T x y _,.bib op' x' y'=>decide (op=op') && okX N x x' && okX N y y' && isBool P T
 | .unOp .not _ x,.not y=>okX N x y
 | .unOp .neg _ x,.neg y=>okX N x y
 | .convert T T' x,.conv k y=>okX N x y && (intB P T).isSome && intB P T' ==some k
 | .call c,.len y=>(match c.callee,c.args.toList,c.argTypes.toList with
   | .builtin .len,[x],[T]=>okX N x y && isSl P T
   |_,_,_=>false)
 | .call c,.sln y=>(match c.callee,c.args.toList,c.argTypes.toList with
   | .builtin .len,[x],[T]=>okX N x y && isStr P T
   |_,_,_=>false)
 | .call c,.min y y'=>(match c.callee,c.args.toList with
   | .builtin .min,[x,x']=>okX N x y && okX N x' y'
   |_,_=>false)
 | .call c,.max y y'=>(match c.callee,c.args.toList with
   | .builtin .max,[x,x']=>okX N x y && okX N x' y'
   |_,_=>false)
 | .extract x i,.ext y j=>okX N x y && i ==j
 | .slice T x none (some h) none,.slc y j=>okX N x y && okX N h j && isSl P T && (sliceZ P T).isSome
 | .slice T x lo hi none,.ssl y l h=>okX N x y && okOX N lo l && okOX N hi h && isStr P T
 | .slice T x lo hi none,.sl2 k y l h=>okX N x y && okOX N lo l && okOX N hi h && sliceZ P T ==some k
 | .nilCheck x,.nck y=>okX N x y
 | .convert T T' x,.bts y=>okX N x y && isStr P T' && isBy P T
 |_,_=>false
theorem nth_get{α:Type}:∀(l:List α) (i:Nat),nth l i=l[i]?
 |[],i=>by simp[nth]
 |x::l,0=>by simp[nth]
 |x::l,i+1=>by simp[nth,nth_get l i]
theorem CRs.length{γ:Gh}{w:World}:∀{cs:List C} {vs:List Value},CRs γ w cs vs→vs.length=cs.length
 |[],_,h=>by simp only[CRs]at h;simp[h]
 |c::cs,_,h=>by
  simp only[CRs]at h;obtain⟨v,vs',rfl,_,h3⟩:=h;simp[CRs.length h3]
theorem CRs.at_{γ:Gh}{w:World}:∀{cs:List C} {vs:List Value},CRs γ w cs vs→∀{i:Nat} {c:C},cs[i]?=some c→∃v,vs[i]?=some v∧CR γ w c v
 |[],_,_,i,c,hi=>by simp at hi
 |x::cs,_,h,i,c,hi=>by
  simp only[CRs]at h;obtain⟨v,vs',rfl,h2,h3⟩:=h;cases i with
  |zero=>simp at hi;subst hi;exact⟨v,rfl,h2⟩
  |succ i=>simp at hi;simpa using CRs.at_ h3 hi
theorem CRs.drop{γ:Gh}{w:World}:∀{cs:List C} {vs:List Value} (n:Nat),CRs γ w cs vs→CRs γ w (cs.drop n) (vs.drop n)
 |cs,_,0,h=>by simpa using h
 |[],_,n+1,h=>by simp only[CRs]at h;subst h;simp[CRs]
 |c::cs,_,n+1,h=>by
  simp only[CRs]at h;obtain⟨v,vs',rfl,_,h3⟩:=h
  simpa using CRs.drop n h3
theorem CRs.take{γ:Gh}{w:World}:∀{cs:List C} {vs:List Value} (n:Nat),CRs γ w cs vs→CRs γ w (cs.take n) (vs.take n)
 |cs,_,0,h=>by simp[CRs]
 |[],_,n+1,h=>by simp only[CRs]at h;subst h;simp[CRs]
 |c::cs,_,n+1,h=>by
  simp only[CRs]at h;obtain⟨v,vs',rfl,h2,h3⟩:=h;simp only[List.take_succ_cons,CRs];exact⟨v,_,rfl,h2,CRs.take n h3⟩
theorem CRs.append{γ:Gh}{w:World}:∀{cs ds:List C} {vs us:List Value},CRs γ w cs vs→CRs γ w ds us→CRs γ w (cs++ds) (vs++us)
 |[],_,_,_,h,h'=>by simp only[CRs]at h;subst h;simpa using h'
 |c::cs,_,_,_,h,h'=>by
  simp only[CRs]at h;obtain⟨v,vs',rfl,h2,h3⟩:=h;simp only[List.cons_append,CRs];exact⟨v,_,rfl,h2,CRs.append h3 h'⟩
theorem CRs.spl{γ:Gh}{w:World}{cs ds:List C}{vs us:List Value}(o:Nat)(h:CRs γ w cs vs)(h':CRs γ w ds us):CRs γ w (splC cs o ds) (splice vs o us):=by
 unfold splC splice;rw[← h'.length];exact ((h.take o).append h').append (h.drop _)
theorem CRs.ofC{γ:Gh}{w:World}:∀{ds:List D} {vs:List Value} {F:Fp},RpC w ds vs F→Settled γ.h F→CRs γ w (ds.map .d) vs
 |[],_,_,h,_=>by simp only[RpC]at h;simp[CRs,h.1]
 |d::ds,_,_,h,hs=>by
  simp only[RpC]at h;obtain⟨v,vs',F1,F2,rfl,rfl,h3,h4⟩:=h;simp only[List.map_cons,CRs];refine⟨v,vs',rfl,?_,CRs.ofC h4 (hs.sub (by simp_all))⟩;simp only[CR];exact⟨F1,h3,hs.sub (by simp_all)⟩
theorem CR.cells{γ:Gh}{w:World}{c:C}{v:Value}(h:CR γ w c v)(hc:c.cells.all C.cell=true):CRs γ w c.cells v.cells.toList∧(c.isAgg=false→v.cells=#[v])∧(c.isAgg=true→∃vs:List Value,v=.agg vs.toArray):=by
 cases c with
 |agg cs=>
  simp only[CR]at h;obtain⟨vs,rfl,h2⟩:=h;exact⟨by simpa [C.cells,Value.cells] using h2,by simp[C.isAgg],fun _=>⟨vs,rfl⟩⟩
 |d x=>
  have h':=h;simp only[CR]at h;obtain⟨F,h1,_⟩:=h;have ho:=h1.isOne;have e:v.cells=#[v]:=by cases v<;>simp_all[Value.cells,one]
  refine⟨?_,fun _=>e,by simp[C.isAgg]⟩;rw[e];simp only[C.cells,CRs];exact⟨v,[],rfl,h',rfl⟩
 |nil k fl=>
  have h':=h;simp only[CR]at h;obtain⟨rfl,_⟩:=h;refine⟨?_,fun _=>rfl,by simp[C.isAgg]⟩;simp only[C.cells,Value.cells,CRs];exact⟨_,[],rfl,h',rfl⟩
 |ref r=>
  have h':=h;simp only[CR]at h;obtain⟨_,A,n,c,rfl⟩:=h;refine⟨?_,fun _=>rfl,by simp[C.isAgg]⟩;simp only[C.cells,Value.cells,CRs];exact⟨_,[],rfl,h',rfl⟩
 |ptr _ _=>simp[C.cells,C.cell]at hc
 |ept _ _ _ _=>simp[C.cells,C.cell]at hc
 |dpt _=>simp[C.cells,C.cell]at hc
 |tup _=>simp[C.cells,C.cell]at hc
 |und=>simp[C.cells,C.cell]at hc
 |any=>simp[C.cells,C.cell]at hc
theorem put_at(off:Nat):∀(vs:List Value) (j:Nat) (A:Array Value),off+j+vs.length≤A.size→(vs.zipIdx j).foldl (fun a p=>a.setIfInBounds (off+p.2) p.1) A=(splice A.toList (off+j) vs).toArray
 |[],j,A,_=>by simp[splice]
 |v::vs,j,A,h=>by
  simp only[List.length_cons]at h;simp only[List.zipIdx_cons,List.foldl_cons];rw[put_at off vs (j+1) _ (by simp;omega),← Nat.add_assoc,← splice_cons _ _ _ _ (by simp;omega)];simp
theorem put_at'(off:Nat)(vs:List Value)(A:Array Value)(h:off+vs.length≤A.size):vs.toArray.zipIdx.foldl (fun a (c,j)=>a.setIfInBounds (off+j) c) A=(splice A.toList off vs).toArray:=by
 have h1:=put_at off vs 0 A (by simpa using h);rw[← Array.foldl_toList]
 simpa using h1
theorem fill_rel{γ:Gh}{h0:Nat→Nat}{io:List Nat}{w0:World}{s:St}{f:Fm}{w:World}{N:Nat}(hi:Inv γ h0 io w0 s f w){pl:List (Nat×Nat)}{place:Nat→Option (Nat×Nat)}(hp:∀i,place i=pl[i]?) :
  ∀(ps:List (Nat×Operand)) (ks:List (Nat×Nat×KX)) (zs:List C) (zv:List Value) (cs':List C),okParts N pl ps ks=true→CRs γ w zs zv→fillC zs (ks.map fun p=>(p.1,p.2.1,(evX s p.2.2).cells))=some cs'→
   ∃vs':List Value,Instr.fill place zv.toArray (ps.map fun p=>(p.1,(fr f N).eval p.2))=some vs'.toArray∧CRs γ w cs' vs'
 |[],[],zs,zv,cs',_,hz,hf=>by
  simp only[List.map_nil,fillC,Option.some.injEq]at hf;subst hf;exact⟨zv,rfl,hz⟩
 |[],_::_,_,_,_,h,_,_=>by simp[okParts]at h
 |_::_,[],_,_,_,h,_,_=>by simp[okParts]at h
 |(i,x)::ps,(o,n,kx)::ks,zs,zv,cs',h,hz,hf=>by
  simp only[okParts,Bool.and_eq_true,beq_iff_eq]at h;obtain⟨⟨h1,h2⟩,h3⟩:=h;simp only[List.map_cons,fillC]at hf
  split at hf
  ·rename_i hc;obtain⟨c1,c2,c3⟩:=hc;have hx:=evX_rel hi h2;obtain⟨hr,_,_⟩:=hx.cells c3;have hl:=hr.length;obtain⟨vs',h4,h5⟩:=fill_rel hi hp ps ks _ _ cs' h3 (hz.spl o hr) hf;refine⟨vs',?_,h5⟩;simp only[List.map_cons,Instr.fill,hp,h1];have hsz:((fr f N).eval x).cells.size=n:=by rw[← Array.length_toList,hl];exact c1
   have hz':=hz.length;rw[if_neg (by simp only[List.size_toArray];simp;omega)];have e:((fr f N).eval x).cells.zipIdx.foldl (fun cs (c,j)=>cs.setIfInBounds (o+j) c) zv.toArray=(splice zv o ((fr f N).eval x).cells.toList).toArray:=by
    have:=put_at' o ((fr f N).eval x).cells.toList zv.toArray (by simp;omega)
    simpa using this
   rw[e];exact h4
  ·cases hf
theorem built_of{P:Program}{T:TypeId}{z:List Value}{pl:List (Nat×Nat)}(hz:zeroB P T=some z)(hp:placesB P T=some pl)(parts:List (Nat×Value)):P.built T parts=Instr.fill (fun i=>pl[i]?) z.toArray parts:=by
 unfold placesB at hp;unfold zeroB at hz;cases hi:P.info? T with
 |none=>rw[hi]at hz;simp at hz
 |some it=>
  rw[hi]at hz;cases hzz:it.zero with
  |none=>simp[hzz]at hz
  |some z0=>
   simp[hzz]at hz;subst hz
   split at hp
   ·rename_i fs hu;simp only[Program.built,hi,hu,hzz,hp];simp
   ·cases hp
section
variable {P:Program} {γ:Gh} {h0:Nat→Nat} {io:List Nat} {w0:World} {s:St} {f:Fm} {w:World} {N:Nat} {dst:Option Tmp} {ty:TypeId} {pos:String} {aft:Array Edge} {gd:Option (Nat×Bool)}
theorem p_build(hi:Inv γ h0 io w0 s f w){T:TypeId}{ps:Array (Nat×Operand)}{zs:List C}{ks:List (Nat×Nat×KX)}{c:C}(hok:okP P N (.build T ps) (.build zs ks)=true)(he:evP s (.build zs ks)=some c) :
  ∃v,CR γ w c v∧∀w',(execOp (fr f N).eval ⟨dst,.build T ps,ty,pos,aft,gd⟩).run P w'=.ok (.value v) w':=by
 simp only[okP]at hok
 split at hok
 ·rename_i z pl hz hp;simp only[Bool.and_eq_true]at hok;simp only[evP,Option.map_eq_some_iff]at he;obtain⟨cs',he,rfl⟩:=he;obtain⟨vs',h1,h2⟩:=fill_rel hi (place:=fun i=>pl[i]?) (fun _=>rfl) ps.toList ks zs z cs' hok.2 (okZs_rel _ _ hok.1) he;refine⟨.agg vs'.toArray,by simp only[CR];exact⟨vs',rfl,h2⟩,fun w'=>?_⟩;have hb:=run_build (P:=P) w' T (ps.map fun (i,x)=>(i,(fr f N).eval x)) vs'.toArray (by rw[built_of hz hp];simpa using h1);simp[execOp,hb]
 ·cases hok
theorem p_zro(hi:Inv γ h0 io w0 s f w){T:TypeId}{ps:Array (Nat×Operand)}{zs:List C}{c:C}(hok:okP P N (.build T ps) (.zro zs)=true)(he:evP s (.zro zs)=some c) :
  ∃v,CR γ w c v∧∀w',(execOp (fr f N).eval ⟨dst,.build T ps,ty,pos,aft,gd⟩).run P w'=.ok (.value v) w':=by
 simp only[okP,Bool.and_eq_true,Array.isEmpty_iff]at hok;obtain⟨⟨rfl,ha⟩,hok⟩:=hok
 split at hok
 ·rename_i z hz;simp only[evP]at he
  split at he
  ·simp only[Option.some.injEq]at he;subst he;refine⟨.agg z.toArray,by simp only[CR];exact⟨z,rfl,okZs_rel _ _ hok⟩,fun w'=>?_⟩;have hb:P.built T []=some z.toArray:=by
    unfold zeroB at hz;unfold arrE at ha;cases hi:P.info? T with
    |none=>rw[hi]at hz;simp at hz
    |some it=>
     rw[hi]at hz;cases hzz:it.zero with
     |none=>simp[hzz]at hz
     |some z0=>
      simp[hzz]at hz;subst hz
      split at ha
      ·rename_i m E hu;rw[Option.isSome_iff_exists]at ha;obtain⟨ie,hie⟩:=ha;simp[Program.built,hi,hu,hzz,hie,Instr.fill]
      ·cases ha
   have hr:=run_build (P:=P) w' T #[] z.toArray hb;simp[execOp,hr]
  ·cases he
 ·cases hok
theorem p_load(hi:Inv γ h0 io w0 s f w){T:TypeId}{x:Operand}{y:KX}{n:Nat}{c:C}(hok:okP P N (.load T x) (.ld n y)=true)(he:evP s (.ld n y)=some c) :
  ∃v,CR γ w c v∧∀w',Sames γ s w w'→(execOp (fr f N).eval ⟨dst,.load T x,ty,pos,aft,gd⟩).run P w'=.ok (.value v) w':=by
 simp only[okP,Bool.and_eq_true]at hok;obtain⟨hx,hty⟩:=hok;have hr:=evX_rel hi hx;have fin:∀(b o:Nat) (vs:List Value),(fr f N).eval x=.pointer (some ⟨b,o,none⟩)→(∀w',Sames γ s w w'→Lies w' b o vs)→(n=0→vs.length=1)→(n≠0→vs.length=n)→
   ∀w',Sames γ s w w'→(execOp (fr f N).eval ⟨dst,.load T x,ty,pos,aft,gd⟩).run P w'=.ok (.value (if n=0 then vs.headD undef else .agg vs.toArray)) w':=by
  intro b o vs hp hl h1 h2 w' hs;by_cases hn:n=0
  ·subst hn;simp only[if_true,beq_iff_eq]at hty ⊢;obtain⟨v,rfl⟩:=List.length_eq_one_iff.1 (h1 rfl);exact x_load (fun w=>run_isAgg hty w) hp (by have:=hl w' hs 0 v rfl;simpa using this)
  ·simp only[if_neg hn,Bool.and_eq_true,beq_iff_eq]at hty ⊢;exact x_loadN (fun w=>run_isAgg hty.1 w) (fun w=>run_sizeOf hty.2 w) hp (h2 hn) (hl w' hs)
 simp only[evP]at he
 split at he
 ·rename_i b o hb;rw[hb]at hr;simp only[CR]at hr
  split at he
  ·rename_i cs hl;obtain⟨T',vs,h1,h2,h3⟩:=hi.bx b cs hl;have hlen:=h2.length;have hlies:∀(m:Nat) w',Sames γ s w w'→Lies w' (γ.β b) o ((vs.drop o).take m):=by
    intro m w' hs;have:=(h1.keep (hs.bx b cs hl)).lies;have h4:=this.sub o m
    simpa using h4
   by_cases hn:n=0
   ·subst hn;simp only[if_true,nth_get]at he;obtain⟨v,hv,hc⟩:=h2.at_ he;have hlt:=(List.getElem?_eq_some_iff.1 hv).1;have e1:(vs.drop o).take 1=[v]:=by
     rw[List.take_one,List.head?_drop,hv];rfl
    refine⟨v,hc,fun w' hs=>?_⟩;have:=fin _ _ _ hr (hlies 1) (fun _=>by rw[e1];rfl) (fun h=>absurd rfl h) w' hs;rw[e1]at this
    simpa using this
   ·rw[if_neg hn]at he
    split at he
    ·rename_i ho;simp only[Option.some.injEq]at he;subst he;refine⟨.agg ((vs.drop o).take n).toArray,by simp only[CR];exact⟨_,rfl,(h2.drop o).take n⟩,fun w' hs=>?_⟩;have:=fin _ _ _ hr (hlies n) (fun h=>absurd h hn) (fun _=>by simp;omega) w' hs
     simpa [hn] using this
    ·cases he
  ·cases he
 ·rename_i cs hb;rw[hb]at hr;simp only[CR]at hr;obtain⟨b,o,vs,F,hp,hrc,hset,hl,hh⟩:=hr;have hlen:=RpC.length cs hrc;have hlies:∀(m:Nat) w',Sames γ s w w'→Lies w' b o (vs.take m):=by
   intro m w' hs;have:Lies w' b o vs:=by
    intro j u hu;have hj:=(List.getElem?_eq_some_iff.1 hu).1;rw[hs.cell b (o+j) (hh j (by omega))];exact hl j u hu
   have h4:=this.sub 0 m
   simpa using h4
  by_cases hn:n=0
  ·subst hn;simp only[if_true,nth_get,Option.map_eq_some_iff]at he;obtain⟨d,hd,rfl⟩:=he;obtain⟨v,G,hv,hrp,hG⟩:=hrc.at_ hd;have e1:vs.take 1=[v]:=by
    rw[List.take_one,List.head?_eq_getElem?,hv];rfl
   refine⟨v,by simp only[CR];exact⟨G,hrp,hset.sub hG⟩,fun w' hs=>?_⟩;have:=fin _ _ _ hp (hlies 1) (fun _=>by rw[e1];rfl) (fun h=>absurd rfl h) w' hs;rw[e1]at this
   simpa using this
  ·rw[if_neg hn]at he
   split at he
   ·rename_i ho;simp only[Option.some.injEq]at he;subst he;obtain⟨G,h4,h5⟩:=RpC.take cs n hrc;refine⟨.agg (vs.take n).toArray,by simp only[CR];exact⟨_,rfl,CRs.ofC h4 (hset.sub h5)⟩,fun w' hs=>?_⟩;have:=fin _ _ _ hp (hlies n) (fun h=>absurd h hn) (fun _=>by simp;omega) w' hs
    simpa [hn] using this
   ·cases he
 ·rename_i r k i o hb;rw[hb]at hr;simp only[CR]at hr;obtain⟨g,p,m,cc,hsl,hp⟩:=hr
  split at he
  ·rename_i row hl
   split at he
   ·rename_i e hei
    split at he
    ·rename_i hc;obtain⟨hk,ho,hpl⟩:=hc;subst hk;obtain⟨F,hR,_,hω⟩:=hi.rw r row hl;obtain⟨A,n',c',q1,q2,q3,q4,q5,q6,q7,q8⟩:=hR;rw[hsl]at q1;simp only[Value.slice.injEq]at q1;obtain⟨rfl,rfl,rfl⟩:=q1;rcases q8 with ⟨q8,_⟩|⟨g',p',xs,G,a1,a2,a3,a4,a5,a6,a7,a8,a9,a10⟩
     ·cases q8
     ·simp only[Option.some.injEq,Addr.mk.injEq,and_true]at a1;obtain⟨rfl,rfl⟩:=a1;rw[nth_get]at hei;obtain⟨G',hrc,hG'⟩:=a4.at_ q6 hei;have hlx:=RpE.length row.es a4 q6;have hilt:=(List.getElem?_eq_some_iff.1 hei).1;have hel:=q6 e (List.mem_of_getElem? hei);have hgF:g∈F:=by
       cases hd:row.deep with
       |true=>rw[(a9 hd).1];simp
       |false=>rw[(a10 hd).1];simp
      have hlies:∀(m:Nat) w',Sames γ s w w'→Lies w' g (p+i * row.k+o) ((((xs.drop (i * row.k)).take row.k).drop o).take m):=by
       intro m w' hs;have h1:Lies w' g p xs:=a5.keep (hs.rw r row hl g (hω g hgF));have h2:=(h1.sub (i * row.k) row.k).sub o m;exact h2
      have hsett:∀(m:Nat),plains ((e.drop o).take m)=true∨row.deep=false→∃G2,RpC w ((e.drop o).take m) ((((xs.drop (i * row.k)).take row.k).drop o).take m) G2∧Settled γ.h G2:=by
       intro m hm;obtain⟨G1,r1,s1⟩:=RpC.drop e o hrc;obtain⟨G2,r2,s2⟩:=RpC.take _ m r1;refine⟨G2,r2,?_⟩;rcases hm with hm|hm
       ·have:G2=[]:=r2.plain (by simpa [plains] using hm);subst this;exact fun _ h=>by simp at h
       ·exact (a10 hm).2.sub (fun be hb=>hG' be (s1 be (s2 be hb)))
      have hpl':∀m,m=max n 1→plains ((e.drop o).take m)=true∨row.deep=false:=by
       intro m hm;subst hm
       simpa using hpl
      have hlen:((xs.drop (i * row.k)).take row.k).length=row.k:=by
       rw[RpC.length e hrc,hel]
      by_cases hn:n=0
      ·subst hn;simp only[if_true,nth_get,Option.map_eq_some_iff]at he;obtain⟨d,hd,rfl⟩:=he;obtain⟨G2,r2,s2⟩:=hsett 1 (hpl' 1 (by simp));have e1:(e.drop o).take 1=[d]:=by rw[List.take_one,List.head?_drop,hd];rfl
       rw[e1]at r2;obtain⟨v,G3,hv,hrp,hG4⟩:=r2.at_ (i:=0) (d:=d) rfl;have e2:(((xs.drop (i * row.k)).take row.k).drop o).take 1=[v]:=by
        have hl1:=RpC.length _ r2;simp only[List.length_cons,List.length_nil]at hl1;obtain⟨u,hu⟩:=List.length_eq_one_iff.1 hl1;rw[hu]at hv ⊢;simp at hv;rw[hv]
       refine⟨v,by simp only[CR];exact⟨G3,hrp,s2.sub hG4⟩,fun w' hs=>?_⟩;have:=fin _ _ _ hp (hlies 1) (fun _=>by rw[e2];rfl) (fun h=>absurd rfl h) w' hs;rw[e2]at this
       simpa using this
      ·rw[if_neg hn]at he;simp only[Option.some.injEq]at he;subst he;have hmax:max n 1=n:=by omega
       obtain⟨G2,r2,s2⟩:=hsett n (hpl' n hmax.symm);refine⟨.agg ((((xs.drop (i * row.k)).take row.k).drop o).take n).toArray,by simp only[CR];exact⟨_,rfl,CRs.ofC r2 s2⟩,fun w' hs=>?_⟩;have:=fin _ _ _ hp (hlies n) (fun h=>absurd h hn) (fun _=>by simp only[List.length_take,List.length_drop,hlen];omega) w' hs
       simpa [hn] using this
    ·cases he
   ·cases he
  ·cases he
 ·cases he
theorem p_fa(hi:Inv γ h0 io w0 s f w){T:TypeId}{x:Operand}{y:KX}{i o:Nat}{c:C}(hok:okP P N (.fieldAddr T x i) (.fa o y)=true)(he:evP s (.fa o y)=some c) :
  ∃v,CR γ w c v∧∀w',(execOp (fr f N).eval ⟨dst,.fieldAddr T x i,ty,pos,aft,gd⟩).run P w'=.ok (.value v) w':=by
 simp only[okP,Bool.and_eq_true]at hok;obtain⟨hx,hty⟩:=hok;have hr:=evX_rel hi hx;unfold fieldB at hty
 split at hty
 ·rename_i fs hu
  split at hty
  ·rename_i fd hfd;simp only[Bool.and_eq_true,beq_iff_eq]at hty;obtain⟨ho,hsz⟩:=hty
   split at hsz
   ·rename_i n hn;simp only[Nat.blt_eq]at hsz;obtain⟨m,rfl⟩:∃m,n=m+1:=⟨n - 1,by omega⟩
    have fin:∀b p,(fr f N).eval x=.pointer (some ⟨b,p,none⟩)→∀w',(execOp (fr f N).eval ⟨dst,.fieldAddr T x i,ty,pos,aft,gd⟩).run P w'=.ok (.value (.pointer (some ⟨b,p+o,none⟩))) w':=
     fun b p hp w'=>x_field hu hfd (fun w=>run_sizeOf hn w) ho hp
    simp only[evP]at he
    split at he
    ·rename_i b p hb;rw[hb]at hr;simp only[CR]at hr;simp only[Option.some.injEq]at he;subst he;exact⟨_,by simp only[CR],fin _ _ hr⟩
    ·rename_i cs hb;rw[hb]at hr;simp only[CR]at hr;simp only[Option.some.injEq]at he;subst he;obtain⟨b,p,vs,F,hp,hrc,hset,hl,hh⟩:=hr;obtain⟨G,h4,h5⟩:=RpC.drop cs o hrc;refine⟨_,?_,fin _ _ hp⟩;simp only[CR];refine⟨b,p+o,vs.drop o,G,rfl,h4,hset.sub h5,?_,?_⟩
     ·intro j u hu;rw[List.getElem?_drop]at hu;rw[Nat.add_assoc];exact hl _ u hu
     ·intro j hj;rw[List.length_drop]at hj;rw[Nat.add_assoc];exact hh _ (by omega)
    ·rename_i r k i' p hb;rw[hb]at hr;simp only[CR]at hr;simp only[Option.some.injEq]at he;subst he;obtain⟨g,q,n,cc,h1,h2⟩:=hr;refine⟨_,?_,fin _ _ h2⟩;simp only[CR];exact⟨g,q,n,cc,h1,by rw[Nat.add_assoc (q+i' * k)]⟩
    ·cases he
   ·cases hsz
  ·cases hty
 ·cases hty
theorem p_ia(hi:Inv γ h0 io w0 s f w){T:TypeId}{x ix:Operand}{y j:KX}{k:Nat}{c:C}(hok:okP P N (.indexAddr T x ix) (.ia k y j)=true)(he:evP s (.ia k y j)=some c) :
  ∃v,CR γ w c v∧∀w',(execOp (fr f N).eval ⟨dst,.indexAddr T x ix,ty,pos,aft,gd⟩).run P w'=.ok (.value v) w':=by
 simp only[okP,Bool.and_eq_true]at hok;obtain⟨⟨hx,hj⟩,hty⟩:=hok;have hr:=evX_rel hi hx;have hrj:=evX_rel hi hj;unfold sliceB at hty
 split at hty
 ·rename_i E hu;simp only[beq_iff_eq]at hty;simp only[evP]at he
  split at he
  ·rename_i k' fl es n hb hn;rw[hb]at hr;rw[hn]at hrj;obtain⟨hjv,_⟩:=cr_int hrj
   split at he
   ·rename_i hc;obtain⟨h1,rfl⟩:=hc;simp only[nth_get,Option.map_eq_some_iff]at he;obtain⟨e,hei,rfl⟩:=he;simp only[CR,Rp]at hr;obtain⟨F,⟨A,m,cc,q1,q2,q3,q4,q5,q6,q7,q8⟩,hset⟩:=hr;have hlt:=(List.getElem?_eq_some_iff.1 hei).1;rcases q8 with ⟨q8,_⟩|⟨_,b,o,xs,G,rfl,rfl,a2,a3⟩
    ·omega
    ·refine⟨.pointer (some ⟨b,o+n.toNat * k',none⟩),?_,fun w'=>x_index hu (fun w=>run_sizeOf hty w) q1 hjv (by omega) (by omega)⟩;obtain⟨G',hrc,hG'⟩:=a2.at_ q7 hei;simp only[CR];refine⟨b,_,_,G',rfl,hrc,hset.sub (fun be hb=>by simp[hG' be hb]),a3.sub _ _,?_⟩;intro i hi';have hel:=q7 e (List.mem_of_getElem? hei);have hs:=hset (b,o+m * k') (by simp);simp only at hs
     have:n.toNat * k'+k'≤m * k':=by
      rw[← Nat.succ_mul];exact Nat.mul_le_mul_right _ (by omega)
     omega
   ·cases he
  ·rename_i r n hb hn;rw[hb]at hr;rw[hn]at hrj;obtain⟨hjv,_⟩:=cr_int hrj
   split at he
   ·rename_i row hl
    split at he
    ·rename_i hc;obtain⟨h1,h2,rfl⟩:=hc;simp only[Option.some.injEq]at he;subst he;simp only[CR]at hr;obtain⟨hr,_⟩:=hr;obtain⟨F,hR,_,hω⟩:=hi.rw r row hl;obtain⟨A,n',c',q1,q2,q3,q4,q5,q6,q7,q8⟩:=hR;rcases q8 with ⟨rfl,q8,_⟩|⟨g',p',xs,G,rfl,a2,a3,a4,a5,a6,a7,a8,a9,a10⟩
     ·omega
     ·refine⟨.pointer (some ⟨g',p'+n.toNat * row.k,none⟩),?_,fun w'=>x_index hu (fun w=>run_sizeOf hty w) (hr.trans q1) hjv (by omega) (by omega)⟩;simp only[CR];exact⟨g',p',n',c',q1,by simp⟩
    ·cases he
   ·cases he
  ·cases he
 ·cases hty
theorem x_aindex{ρ:Operand→Value}{x y:Operand}{b o n:Nat}{i:Nat}{a:Int}{T E:TypeId}{k:Nat}(hU:P.underlying T=some (.array n E))(hS:∀w,(Go.sizeOf E).run P w=.ok k w)(hx:ρ x=.pointer (some ⟨b,o,none⟩))(hy:ρ y=.int .i64 a)(ha:a=(i:Int))(hi:i < n) :
  (execOp ρ ⟨dst,.indexAddr T x y,ty,pos,aft,gd⟩).run P w=.ok (.value (.pointer (some ⟨b,o+i * k,none⟩))) w:=by
 subst ha;simp[execOp,Instr.indexAt,hx,hy,asIntOf,Instr.sureAddr,run_underlying hU,hS,add_mk,hi]
theorem p_ixa(hi:Inv γ h0 io w0 s f w){T:TypeId}{x ix:Operand}{y j:KX}{n k:Nat}{c:C}(hok:okP P N (.indexAddr T x ix) (.ixa n k y j)=true)(he:evP s (.ixa n k y j)=some c) :
  ∃v,CR γ w c v∧∀w',(execOp (fr f N).eval ⟨dst,.indexAddr T x ix,ty,pos,aft,gd⟩).run P w'=.ok (.value v) w':=by
 simp only[okP,Bool.and_eq_true]at hok;obtain⟨⟨hx,hj⟩,hty⟩:=hok;have hr:=evX_rel hi hx;have hrj:=evX_rel hi hj;unfold arrB at hty
 split at hty
 ·rename_i m E hu;simp only[Bool.and_eq_true,beq_iff_eq]at hty;obtain⟨rfl,hsz⟩:=hty;simp only[evP]at he
  split at he
  ·rename_i b o q hb hn;rw[hb]at hr;rw[hn]at hrj;obtain⟨hjv,_⟩:=cr_int hrj;simp only[CR]at hr
   split at he
   ·rename_i hc;simp only[Option.some.injEq]at he;subst he;exact⟨_,by simp only[CR],fun w'=>x_aindex hu (fun w=>run_sizeOf hsz w) hr hjv (by omega) hc.2⟩
   ·cases he
  ·cases he
 ·cases hty
theorem p_six(hi:Inv γ h0 io w0 s f w){T:TypeId}{x ix:Operand}{y j:KX}{c:C}(hok:okP P N (.index T x ix) (.six y j)=true)(he:evP s (.six y j)=some c) :
  ∃v,CR γ w c v∧∀w',(execOp (fr f N).eval ⟨dst,.index T x ix,ty,pos,aft,gd⟩).run P w'=.ok (.value v) w':=by
 simp only[okP,Bool.and_eq_true]at hok;obtain⟨⟨hx,hj⟩,hty⟩:=hok;have hr:=evX_rel hi hx;have hrj:=evX_rel hi hj;unfold isStr at hty
 split at hty
 ·rename_i hu;simp only[evP]at he
  split at he
  ·rename_i t n hb hn;rw[hb]at hr;rw[hn]at hrj;obtain⟨hjv,_⟩:=cr_int hrj;obtain⟨hxv,_⟩:=cr_str hr
   split at he
   ·rename_i hc;simp only[Option.some.injEq]at he;subst he;refine⟨_,rp_int ?_,fun w'=>x_sindex hu hxv hjv (by omega) hc.2⟩;have:=bAt_bd t n.toNat;simp[IntKind.wrap,IntKind.bits,IntKind.signed];omega
   ·cases he
  ·cases he
 ·cases hty
theorem i64_bd{n:Int}(h:IntKind.i64.wrap n=n):-9223372036854775808≤n∧n≤9223372036854775807:=by
 simp[IntKind.wrap,IntKind.bits,IntKind.signed]at h
 split at h<;>omega
theorem i64_wrap{n:Int}(h:-9223372036854775808≤n∧n≤9223372036854775807):IntKind.i64.wrap n=n:=IntWalk.i64_in _ h
theorem wrap_wrap(k:IntKind)(n:Int):k.wrap (k.wrap n)=k.wrap n:=by
 cases k<;>simp only[IntKind.wrap,IntKind.bits,IntKind.signed]<;>(repeat' split)<;>simp_all<;>omega
theorem p_bin(hi:Inv γ h0 io w0 s f w){op:BinOp}{T T':TypeId}{x x':Operand}{y y':KX}{c:C}(hok:okP P N (.binOp op T x x' T') (.bin op y y')=true)(he:evP s (.bin op y y')=some c) :
  ∃v,CR γ w c v∧∀w',(execOp (fr f N).eval ⟨dst,.binOp op T x x' T',ty,pos,aft,gd⟩).run P w'=.ok (.value v) w':=by
 simp only[okP,Bool.and_eq_true]at hok;obtain⟨⟨_,hx⟩,hj⟩:=hok;have hr:=evX_rel hi hx;have hrj:=evX_rel hi hj;simp only[evP]at he;unfold binD at he
 split at he
 ·rename_i k a k' b hb hn;rw[hb]at hr;rw[hn]at hrj;obtain⟨hxv,hxw⟩:=cr_int hr;obtain⟨hjv,hjw⟩:=cr_int hrj
  split at he
  ·rename_i hk;subst hk;simp only[Option.map_eq_some_iff]at he;obtain⟨d,hd,rfl⟩:=he;unfold binI at hd
   split at hd
   all_goals (try (simp only[Option.some.injEq]at hd;subst hd))
   ·exact⟨_,rp_int (wrap_wrap _ _),fun w'=>by simp[execOp,hxv,hjv,binOp,Op.intArith,eqGuard]⟩
   ·exact⟨_,rp_int (wrap_wrap _ _),fun w'=>by simp[execOp,hxv,hjv,binOp,Op.intArith,eqGuard]⟩
   ·exact⟨_,rp_int (wrap_wrap _ _),fun w'=>by simp[execOp,hxv,hjv,binOp,Op.intArith,eqGuard]⟩
   ·exact⟨_,rp_bool,fun w'=>x_lss hxv hjv rfl⟩
   ·exact⟨_,rp_bool,fun w'=>x_leq hxv hjv rfl⟩
   ·exact⟨_,rp_bool,fun w'=>x_gtr hxv hjv rfl⟩
   ·exact⟨_,rp_bool,fun w'=>x_geq hxv hjv rfl⟩
   ·exact⟨_,rp_bool,fun w'=>x_eql hxv hjv rfl⟩
   ·exact⟨_,rp_bool,fun w'=>x_neq hxv hjv (by simp)⟩
   ·split at hd
    ·rename_i hc;obtain⟨rfl,h1,h2⟩:=hc;simp only[Option.some.injEq]at hd;subst hd;have hbd:=i64_bd hxw;have hq:0≤a / b∧a / b≤a:=⟨Int.ediv_nonneg h1 (by omega),Int.ediv_le_self _ h1⟩
     have h0':¬b=0:=by omega
     have e:a.tdiv b=a / b:=Int.tdiv_eq_ediv_of_nonneg h1;have e2:IntKind.i64.wrap (a / b)=a / b:=i64_wrap (by omega);exact⟨_,rp_int e2,fun w'=>by simp[execOp,hxv,hjv,binOp,Op.intDiv,eqGuard,h0',e,e2]⟩
    ·split at hd
     ·rename_i hc;obtain⟨rfl,h1,h2⟩:=hc;simp only[Option.some.injEq]at hd;subst hd;have hbd:=i64_bd hxw;have hq:0≤-a / b∧-a / b≤-a:=⟨Int.ediv_nonneg (by omega) (by omega),Int.ediv_le_self _ (by omega)⟩
      have h0':¬b=0:=by omega
      have e:a.tdiv b=-(-a / b):=by
       have:=Int.neg_tdiv (-a) b;rw[Int.neg_neg]at this;rw[this,Int.tdiv_eq_ediv_of_nonneg (by omega)]
      have e2:IntKind.i64.wrap (-(-a / b))=-(-a / b):=i64_wrap (by omega);exact⟨_,rp_int e2,fun w'=>by simp[execOp,hxv,hjv,binOp,Op.intDiv,eqGuard,h0',e,e2]⟩
     ·cases hd
   ·split at hd
    ·rename_i hc;obtain⟨rfl,h1,h2⟩:=hc;simp only[Option.some.injEq]at hd;subst hd;have hbd:=i64_bd hxw;have hq:0≤a % b∧a % b < b:=⟨Int.emod_nonneg _ (by omega),Int.emod_lt_of_pos _ (by omega)⟩
     have hbj:=i64_bd hjw;have h0':¬b=0:=by omega
     have e:a.tmod b=a % b:=Int.tmod_eq_emod_of_nonneg h1;have e2:IntKind.i64.wrap (a % b)=a % b:=i64_wrap (by omega);exact⟨_,rp_int e2,fun w'=>by simp[execOp,hxv,hjv,binOp,Op.intDiv,eqGuard,h0',e]⟩
    ·split at hd
     ·rename_i hc;obtain⟨rfl,h1,h2⟩:=hc;simp only[Option.some.injEq]at hd;subst hd;have hq:0≤-a % b∧-a % b < b:=⟨Int.emod_nonneg _ (by omega),Int.emod_lt_of_pos _ (by omega)⟩
      have hbj:=i64_bd hjw;have h0':¬b=0:=by omega
      have e:a.tmod b=-(-a % b):=by
       have:=Int.neg_tmod (-a) b;rw[Int.neg_neg]at this;rw[this,Int.tmod_eq_emod_of_nonneg (by omega)]
      have e2:IntKind.i64.wrap (-(-a % b))=-(-a % b):=i64_wrap (by omega);exact⟨_,rp_int e2,fun w'=>by simp[execOp,hxv,hjv,binOp,Op.intDiv,eqGuard,h0',e]⟩
     ·cases hd
   ·cases hd
  ·cases he
 ·rename_i a b hb hn;rw[hb]at hr;rw[hn]at hrj;obtain⟨hxv,hxw⟩:=cr_str hr;obtain⟨hjv,hjw⟩:=cr_str hrj;simp only[Option.map_eq_some_iff]at he;obtain⟨d,hd,rfl⟩:=he;unfold binS at hd
  split at hd
  ·split at hd
   ·rename_i hc;simp only[Option.some.injEq]at hd;subst hd;have h0':¬(((a.size+b.size:Nat):Int) > IntKind.i64.max):=by simp[IntKind.max,IntKind.signed,IntKind.bits];simp[maxLen]at hc;omega
    refine⟨_,rp_str (by simpa using hc),fun w'=>?_⟩;simp only[execOp,hxv,hjv,binOp,Op.stringOp,eqGuard,if_neg h0'];simp
   ·cases hd
  ·simp only[Option.some.injEq]at hd;subst hd;exact⟨_,rp_bool,fun w'=>x_seql hxv hjv rfl⟩
  ·simp only[Option.some.injEq]at hd;subst hd;exact⟨_,rp_bool,fun w'=>x_sneq hxv hjv (by simp)⟩
  ·simp only[Option.some.injEq]at hd;subst hd;exact⟨_,rp_bool,fun w'=>by simp[execOp,hxv,hjv,binOp,Op.stringOp,eqGuard,sLess]⟩
  ·simp only[Option.some.injEq]at hd;subst hd;exact⟨_,rp_bool,fun w'=>by simp[execOp,hxv,hjv,binOp,Op.stringOp,eqGuard,sLess,toList_eq_iff]⟩
  ·simp only[Option.some.injEq]at hd;subst hd;exact⟨_,rp_bool,fun w'=>by simp[execOp,hxv,hjv,binOp,Op.stringOp,eqGuard,sLess,toList_eq_iff]⟩
  ·simp only[Option.some.injEq]at hd;subst hd;exact⟨_,rp_bool,fun w'=>by simp[execOp,hxv,hjv,binOp,Op.stringOp,eqGuard,sLess]⟩
  ·cases hd
 ·cases he
theorem p_bib(hi:Inv γ h0 io w0 s f w){op:BinOp}{T T':TypeId}{x x':Operand}{y y':KX}{c:C}(hok:okP P N (.binOp op T x x' T') (.bib op y y')=true)(he:evP s (.bib op y y')=some c) :
  ∃v,CR γ w c v∧∀w',(execOp (fr f N).eval ⟨dst,.binOp op T x x' T',ty,pos,aft,gd⟩).run P w'=.ok (.value v) w':=by
 simp only[okP,Bool.and_eq_true]at hok;obtain⟨⟨⟨_,hx⟩,hj⟩,hty⟩:=hok;have hr:=evX_rel hi hx;have hrj:=evX_rel hi hj;unfold isBool at hty
 split at hty
 ·rename_i hT;simp only[evP]at he
  split at he
  ·rename_i a b hb hn;rw[hb]at hr;rw[hn]at hrj;have hxv:=cr_bool hr;have hjv:=cr_bool hrj;simp only[Option.map_eq_some_iff]at he;obtain⟨d,hd,rfl⟩:=he;unfold binB at hd
   split at hd
   ·simp only[Option.some.injEq]at hd;subst hd;exact⟨_,rp_bool,fun w'=>x_beql hT hxv hjv rfl⟩
   ·simp only[Option.some.injEq]at hd;subst hd;exact⟨_,rp_bool,fun w'=>x_bneq hT hxv hjv (by simp)⟩
   ·cases hd
  ·cases he
 ·cases hty
theorem bytes_rel{w:World}:∀(es:List (List D)) {xs:List Value} {G:Fp} {ns:List Int},RpE w es xs G→bytesOf es=some ns→xs=ns.map (Value.int .u8)∧ns.length=es.length
 |[],xs,G,ns,h,hb=>by
  simp only[RpE]at h;simp only[bytesOf,Option.some.injEq]at hb;subst hb;simp[h.1]
 |e::es,xs,G,ns,h,hb=>by
  simp only[RpE]at h;obtain⟨v1,v2,F1,F2,rfl,rfl,h1,h2⟩:=h;unfold bytesOf at hb
  split at hb
  ·rename_i e0;cases e0
  ·rename_i n es' heq;simp only[List.cons.injEq]at heq;obtain⟨rfl,rfl⟩:=heq;simp only[Option.map_eq_some_iff]at hb;obtain⟨ms,hm,rfl⟩:=hb;obtain⟨k1,k2⟩:=bytes_rel es h2 hm;simp only[RpC,Rp]at h1;obtain⟨v,vs',G1,G2,rfl,_,⟨rfl,_⟩,rfl,_⟩:=h1;simp[k1,k2]
  ·cases hb
theorem p_bts(hi:Inv γ h0 io w0 s f w){T T':TypeId}{x:Operand}{y:KX}{c:C}(hok:okP P N (.convert T T' x) (.bts y)=true)(he:evP s (.bts y)=some c) :
  ∃v,CR γ w c v∧∀w',Sames γ s w w'→(execOp (fr f N).eval ⟨dst,.convert T T' x,ty,pos,aft,gd⟩).run P w'=.ok (.value v) w':=by
 simp only[okP,Bool.and_eq_true]at hok;obtain⟨⟨hx,hT'⟩,hT⟩:=hok;have hr:=evX_rel hi hx;simp only[evP]at he
 split at he
 ·rename_i r hb;rw[hb]at hr;simp only[CR]at hr
  split at he
  ·rename_i row hl
   split at he
   ·rename_i hc;simp only[Option.map_eq_some_iff]at he;obtain⟨ns,hns,rfl⟩:=he;obtain⟨F,hR,_,hω⟩:=hi.rw r row hl;obtain⟨A,n,cc,q1,q2,q3,q4,q5,q6,q7,q8⟩:=hR;rcases q8 with ⟨a1,hc0,_⟩|⟨g,o,xs,G,a1,a2,a3,a4,a5,a6,a7,a8,a9,a10⟩
    ·have hes:row.es=[]:=List.length_eq_zero_iff.1 (by omega);rw[hes]at hns;simp only[bytesOf,Option.some.injEq]at hns;subst hns;subst a1;refine⟨.string ByteArray.empty,rp_str (Nat.zero_le _),fun w' hs=>?_⟩;unfold isStr at hT'
     split at hT'
     ·rename_i hu';unfold isBy at hT
      split at hT
      ·rename_i E hu
       split at hT
       ·rename_i hE;have h:=run_convert_bytes_nil (P:=P) w' T E hu hE n cc T' hu';have hv:=hr.1.trans q1;simp only[execOp,hv,h,Sem.run_bind,Result.andThen_ok];rfl
       ·cases hT
      ·cases hT
     ·cases hT'
    ·have hg:g∈F:=by
      cases hd:row.deep with
      |true=>rw[(a9 hd).1];simp
      |false=>rw[(a10 hd).1];simp
     obtain⟨k1,k2⟩:=bytes_rel _ a4 hns;subst a1;refine⟨_,rp_str ?_,fun w' hs=>?_⟩
     ·show (strOfNums ns).size≤maxLen;rw[strOfNums_size];omega
     ·have hl':Lies w' g o xs:=a5.keep (hs.rw r row hl g (hω g hg));unfold isStr at hT'
      split at hT'
      ·rename_i hu';unfold isBy at hT
       split at hT
       ·rename_i E hu
        split at hT
        ·rename_i hE;have h:=run_convert_bytes_arg (P:=P) w' T E hu hE g o n cc ns (by omega) (fun i hi'=>by
          have hi2:i < ns.length:=by omega
          have:=hl' i (.int .u8 ns[i]) (by rw[k1];simp[hi2]);rw[this];simp[hi2]) T' hu'
         have hv:=hr.1.trans q1;simp only[execOp,hv,h,Sem.run_bind,Result.andThen_ok];rfl
        ·cases hT
       ·cases hT
      ·cases hT'
   ·cases he
  ·cases he
 ·cases he
theorem p_slc(hi:Inv γ h0 io w0 s f w){T:TypeId}{x ix:Operand}{y j:KX}{c:C}(hok:okP P N (.slice T x none (some ix) none) (.slc y j)=true)(he:evP s (.slc y j)=some c) :
  ∃v,CR γ w c v∧∀w',(execOp (fr f N).eval ⟨dst,.slice T x none (some ix) none,ty,pos,aft,gd⟩).run P w'=.ok (.value v) w':=by
 simp only[okP,Bool.and_eq_true]at hok;obtain⟨⟨⟨hx,hj⟩,_⟩,hz⟩:=hok;have hr:=evX_rel hi hx;have hrj:=evX_rel hi hj;obtain⟨z,hz⟩:=Option.isSome_iff_exists.1 hz;unfold sliceZ at hz
 split at hz
 ·rename_i E hu;simp only[evP]at he
  split at he
  ·rename_i k fl es a hb hn;rw[hb]at hr;rw[hn]at hrj;obtain⟨hjv,_⟩:=cr_int hrj
   split at he
   ·rename_i hc;simp only[Option.some.injEq]at he;subst he;simp only[CR,Rp]at hr;obtain⟨F,⟨A,n,cc,q1,q2,q3,q4,q5,q6,q7,q8⟩,hset⟩:=hr;have hlt:(es.take a.toNat).length=a.toNat:=by rw[List.length_take];omega
    refine⟨.slice A a.toNat cc,?_,fun w'=>x_slice_hi hu (fun w=>run_sizeOf hz w) q1 hjv (by omega) (by omega)⟩;by_cases h0:a.toNat=0
    ·simp only[CR,Rp];exact⟨[],⟨A,a.toNat,cc,rfl,hlt.symm,by omega,q4,fun hf e he=>q5 hf e (List.mem_of_mem_take he),q6,fun e he=>q7 e (List.mem_of_mem_take he),.inl ⟨h0,rfl⟩⟩,fun _ h=>by simp at h⟩
    ·rcases q8 with q8|⟨hp,b,o,xs,G,p1,p2,p3,p4⟩
     ·omega
     ·rw[← List.take_append_drop a.toNat es]at p3;obtain⟨v1,v2,F1,F2,rfl,rfl,k1,k2⟩:=RpE.append_inv _ p3;have hl1:=RpE.length _ k1 (fun e he=>q7 e (List.mem_of_mem_take he));rw[hlt]at hl1;simp only[CR,Rp];refine⟨(b,o+a.toNat * k)::F1,⟨A,a.toNat,cc,rfl,hlt.symm,by omega,q4,fun hf e he=>q5 hf e (List.mem_of_mem_take he),q6,fun e he=>q7 e (List.mem_of_mem_take he),.inr ⟨by omega,b,o,v1,F1,p1,rfl,k1,?_⟩⟩,?_⟩
      ·intro j u hu;exact p4 j u (by rw[List.getElem?_append_left (List.getElem?_eq_some_iff.1 hu).1];exact hu)
      ·intro be hbe;rcases List.mem_cons.1 hbe with rfl|hbe
       ·have:=hset (b,o+n * k) (by rw[p2];simp);refine Nat.le_trans ?_ this;have:a.toNat * k≤n * k:=Nat.mul_le_mul_right k (by omega);show o+a.toNat * k≤o+n * k;omega
       ·exact hset be (by rw[p2];simp[hbe])
   ·cases he
  ·cases he
 ·cases hz
theorem p_ssl(hi:Inv γ h0 io w0 s f w){T:TypeId}{x:Operand}{lo hi':Option Operand}{y:KX}{a b:Option KX}{c:C}(hok:okP P N (.slice T x lo hi' none) (.ssl y a b)=true)(he:evP s (.ssl y a b)=some c) :
  ∃v,CR γ w c v∧∀w',(execOp (fr f N).eval ⟨dst,.slice T x lo hi' none,ty,pos,aft,gd⟩).run P w'=.ok (.value v) w':=by
 simp only[okP,Bool.and_eq_true]at hok;obtain⟨⟨⟨hx,hl⟩,hh⟩,hty⟩:=hok;have hr:=evX_rel hi hx;unfold isStr at hty
 split at hty
 ·rename_i hu;simp only[evP]at he
  split at he
  ·rename_i t hb;rw[hb]at hr;obtain⟨hxv,hxs⟩:=cr_str hr
   split at he
   ·rename_i l u hl' hu'
    split at he
    ·rename_i hc;simp only[Option.some.injEq]at he;subst he;refine⟨_,rp_str ?_,fun w'=>x_sslice hu hxv (optI_rel hi hl hl') (optI_rel hi hh hu') hc.1 hc.2⟩;rw[ByteArray.size_extract];omega
    ·cases he
   ·cases he
  ·cases he
 ·cases hty
theorem p_sl2(hi:Inv γ h0 io w0 s f w){T:TypeId}{x:Operand}{lo hi':Option Operand}{y:KX}{a b:Option KX}{k:Nat}{c:C}(hok:okP P N (.slice T x lo hi' none) (.sl2 k y a b)=true)(he:evP s (.sl2 k y a b)=some c) :
  ∃v,CR γ w c v∧∀w',(execOp (fr f N).eval ⟨dst,.slice T x lo hi' none,ty,pos,aft,gd⟩).run P w'=.ok (.value v) w':=by
 simp only[okP,Bool.and_eq_true]at hok;obtain⟨⟨⟨hx,hlo⟩,hhi⟩,hz⟩:=hok;have hr:=evX_rel hi hx;have hz:=eq_of_beq hz;unfold sliceZ at hz
 split at hz
 ·rename_i E hu;simp only[evP]at he
  split at he
  ·rename_i k1 fl es hb;rw[hb]at hr
   split at he
   ·rename_i l u hl' hu'
    split at he
    ·rename_i hc;obtain⟨rfl,c1,c2⟩:=hc;simp only[Option.some.injEq]at he;subst he;simp only[CR,Rp]at hr;obtain⟨F,⟨A,n,cc,q1,q2,q3,q4,q5,q6,q7,q8⟩,hset⟩:=hr;have hlen:((es.take u).drop l).length=u - l:=by simp;omega
     have hmem:∀e∈(es.take u).drop l,e∈es:=fun e he=>List.mem_of_mem_take (List.mem_of_mem_drop he);have hbu:Bnd (fr f N).eval hi' n u:=by rw[q2];exact optI_rel hi hhi hu'
     have hrun:=fun w'=>x_slice2 (w:=w') (dst:=dst) (ty:=ty) (pos:=pos) (aft:=aft) (gd:=gd) hu (fun w=>run_sizeOf hz w) q1 (optI_rel hi hlo hl') hbu c1 (by omega);refine⟨_,?_,hrun⟩;by_cases h0:u - l=0
     ·simp only[CR,Rp];exact⟨[],⟨_,u - l,cc - l,rfl,hlen.symm,by omega,by omega,fun hf e he=>q5 hf e (hmem e he),q6,fun e he=>q7 e (hmem e he),.inl ⟨h0,rfl⟩⟩,fun _ h=>by simp at h⟩
     ·rcases q8 with q8|⟨hp,b,o,xs,G,p1,p2,p3,p4⟩
      ·omega
      ·have hcl:¬cc=l:=by omega
       rw[← List.take_append_drop u es]at p3;obtain⟨v1,v2,F1,F2,rfl,rfl,m0,_⟩:=RpE.append_inv _ p3;rw[← List.take_append_drop l (es.take u)]at m0;obtain⟨u1,u2,G1,G2,rfl,rfl,m1,m2⟩:=RpE.append_inv _ m0;have hl1:=RpE.length _ m1 (fun e he=>q7 e (List.mem_of_mem_take (List.mem_of_mem_take he)));have hl2:((es.take u).take l).length=l:=by simp;omega
       rw[hl2]at hl1;rw[if_neg hcl,p1];simp only[CR,Rp];refine⟨(b,o+l * k1+(u - l) * k1)::G2,⟨some ⟨b,o+l * k1,none⟩,u - l,cc - l,by simp[Addr.add],hlen.symm,by omega,by omega,fun hf e he=>q5 hf e (hmem e he),q6,fun e he=>q7 e (hmem e he),.inr ⟨by omega,b,o+l * k1,u2,G2,rfl,rfl,m2,?_⟩⟩,?_⟩
       ·intro j v hj;have e1:((u1++u2)++v2)[u1.length+j]?=some v:=by
         rw[List.append_assoc,List.getElem?_append_right (by omega),Nat.add_sub_cancel_left,List.getElem?_append_left (List.getElem?_eq_some_iff.1 hj).1];exact hj
        have e2:=p4 _ _ e1;rw[hl1,← Nat.add_assoc]at e2;exact e2
       ·intro be hbe;rcases List.mem_cons.1 hbe with rfl|hbe
        ·have h9:=hset (b,o+n * k1) (by rw[p2];simp);refine Nat.le_trans ?_ h9;have h8:l * k1+(u - l) * k1=u * k1:=by rw[← Nat.add_mul];congr 1;omega
         have h7:u * k1≤n * k1:=Nat.mul_le_mul_right k1 (by omega);show o+l * k1+(u - l) * k1≤o+n * k1;omega
        ·exact hset be (by rw[p2];simp[hbe])
    ·cases he
   ·cases he
  ·cases he
 ·cases hz
theorem pure_sound(hi:Inv γ h0 io w0 s f w){op:Op}{kop:KO}{c:C}(hok:okP P N op kop=true)(he:evP s kop=some c) :
  ∃v,CR γ w c v∧∀w',(kop.isLd=true→Sames γ s w w')→(execOp (fr f N).eval ⟨dst,op,ty,pos,aft,gd⟩).run P w'=.ok (.value v) w':=by
 have hok':=hok;unfold okP at hok
 split at hok
 ·simp only[evP,Option.some.injEq]at he;subst he;exact⟨_,evX_rel hi hok,fun w' _=>x_move rfl⟩
 ·simp only[evP,Option.some.injEq]at he;subst he;exact⟨_,evX_rel hi hok,fun w' _=>x_assign rfl⟩
 ·simp only[Bool.and_eq_true]at hok;obtain⟨⟨h1,h2⟩,h3⟩:=hok;simp only[evP]at he
  split at he
  ·rename_i b hb;have hr:=evX_rel hi h1;rw[hb]at hr;have hv:=cr_bool hr;simp only[Option.some.injEq]at he;subst he;cases b
   ·exact⟨_,evX_rel hi h3,fun w' _=>x_pick_f hv rfl⟩
   ·exact⟨_,evX_rel hi h2,fun w' _=>x_pick_t hv rfl⟩
  ·cases he
 ·obtain⟨v,h1,h2⟩:=p_build (dst:=dst) (ty:=ty) (pos:=pos) (aft:=aft) (gd:=gd) hi hok' he;exact⟨v,h1,fun w' _=>h2 w'⟩
 ·obtain⟨v,h1,h2⟩:=p_load (dst:=dst) (ty:=ty) (pos:=pos) (aft:=aft) (gd:=gd) hi hok' he;exact⟨v,h1,fun w' hs=>h2 w' (hs rfl)⟩
 ·obtain⟨v,h1,h2⟩:=p_fa (dst:=dst) (ty:=ty) (pos:=pos) (aft:=aft) (gd:=gd) hi hok' he;exact⟨v,h1,fun w' _=>h2 w'⟩
 ·obtain⟨v,h1,h2⟩:=p_ia (dst:=dst) (ty:=ty) (pos:=pos) (aft:=aft) (gd:=gd) hi hok' he;exact⟨v,h1,fun w' _=>h2 w'⟩
 ·obtain⟨v,h1,h2⟩:=p_zro (dst:=dst) (ty:=ty) (pos:=pos) (aft:=aft) (gd:=gd) hi hok' he;exact⟨v,h1,fun w' _=>h2 w'⟩
 ·obtain⟨v,h1,h2⟩:=p_ixa (dst:=dst) (ty:=ty) (pos:=pos) (aft:=aft) (gd:=gd) hi hok' he;exact⟨v,h1,fun w' _=>h2 w'⟩
 ·obtain⟨v,h1,h2⟩:=p_six (dst:=dst) (ty:=ty) (pos:=pos) (aft:=aft) (gd:=gd) hi hok' he;exact⟨v,h1,fun w' _=>h2 w'⟩
 ·simp only[Bool.and_eq_true]at hok;have e:=of_decide_eq_true hok.1.1;subst e;obtain⟨v,h1,h2⟩:=p_bin (dst:=dst) (ty:=ty) (pos:=pos) (aft:=aft) (gd:=gd) hi hok' he;exact⟨v,h1,fun w' _=>h2 w'⟩
 ·simp only[Bool.and_eq_true]at hok;have e:=of_decide_eq_true hok.1.1.1;subst e;obtain⟨v,h1,h2⟩:=p_bib (dst:=dst) (ty:=ty) (pos:=pos) (aft:=aft) (gd:=gd) hi hok' he;exact⟨v,h1,fun w' _=>h2 w'⟩
 ·simp only[evP]at he
  split at he
  ·rename_i b hb;have hr:=evX_rel hi hok;rw[hb]at hr;have hv:=cr_bool hr;simp only[Option.some.injEq]at he;subst he;exact⟨_,rp_bool,fun w' _=>x_not hv⟩
  ·cases he
 ·simp only[evP]at he
  split at he
  ·rename_i k a hb;have hr:=evX_rel hi hok;rw[hb]at hr;obtain⟨hv,_⟩:=cr_int hr;simp only[Option.some.injEq]at he;subst he;exact⟨_,rp_int (wrap_wrap _ _),fun w' _=>by simp[execOp,hv,Op.unary,Op.intArith]⟩
  ·cases he
 ·simp only[Bool.and_eq_true,beq_iff_eq]at hok;obtain⟨⟨h1,h2⟩,h3⟩:=hok;simp only[evP]at he
  split at he
  ·rename_i k a hb;have hr:=evX_rel hi h1;rw[hb]at hr;obtain⟨hv,_⟩:=cr_int hr;simp only[Option.some.injEq]at he;subst he;refine⟨_,rp_int (wrap_wrap _ _),fun w' _=>?_⟩;unfold intB at h2 h3
   split at h3
   ·rename_i k' hk';simp only[Option.some.injEq]at h3;subst h3
    split at h2
    ·rename_i k2 hk2;simp[execOp,convert,hv,run_underlying hk',run_underlying hk2,Conv.intToInt]
    ·cases h2
   ·cases h3
  ·cases he
 ·rename_i c0 y
  split at hok
  ·rename_i x T hc1 hc2 hc3;simp only[Bool.and_eq_true]at hok;obtain⟨h1,h2⟩:=hok;obtain⟨cal,args,ats⟩:=c0;simp only at hc1 hc2 hc3
   subst hc1;have ea:args=#[x]:=by rw[← hc2]
   have et:ats=#[T]:=by rw[← hc3]
   subst ea et;have hr:=evX_rel hi h1;unfold isSl at h2
   split at h2
   ·rename_i E hu;have wr:∀n:Nat,n≤maxLen→IntKind.i64.wrap (n:Int)=n:=fun n hn=>i64_wrap (by simp[maxLen]at hn;omega);simp only[evP]at he
    split at he
    ·rename_i k fl es hb;rw[hb]at hr;simp only[CR,Rp]at hr;obtain⟨F,⟨A,m,cc,q1,q2,q3,q4,_⟩,hset⟩:=hr;simp only[Option.some.injEq]at he;subst he;subst q2;exact⟨_,rp_int (wr _ (by omega)),fun w' _=>x_len hu q1⟩
    ·rename_i k fl hb;rw[hb]at hr;simp only[CR]at hr;simp only[Option.some.injEq]at he;subst he;exact⟨_,rp_int (wr 0 (by omega)),fun w' _=>x_len hu hr.1⟩
    ·rename_i r hb;rw[hb]at hr;simp only[CR]at hr
     split at he
     ·rename_i row hl;simp only[Option.some.injEq]at he;subst he;obtain⟨F,hR,_,hω⟩:=hi.rw r row hl;obtain⟨A,n',c',q1,q2,q3,q4,_⟩:=hR;subst q2;exact⟨_,rp_int (wr _ (by omega)),fun w' _=>x_len hu (hr.1.trans q1)⟩
     ·cases he
    ·cases he
   ·cases h2
  ·cases hok
 ·rename_i c0 y
  split at hok
  ·rename_i x T hc1 hc2 hc3;simp only[Bool.and_eq_true]at hok;obtain⟨h1,h2⟩:=hok;obtain⟨cal,args,ats⟩:=c0;simp only at hc1 hc2 hc3
   subst hc1;have ea:args=#[x]:=by rw[← hc2]
   have et:ats=#[T]:=by rw[← hc3]
   subst ea et;have hr:=evX_rel hi h1;unfold isStr at h2
   split at h2
   ·rename_i hu;simp only[evP]at he
    split at he
    ·rename_i t hb;rw[hb]at hr;obtain⟨hv,hl⟩:=cr_str hr;simp only[Option.some.injEq]at he;subst he;exact⟨_,rp_int (i64_wrap (by simp[maxLen]at hl;omega)),fun w' _=>x_slen hu hv⟩
    ·cases he
   ·cases h2
  ·cases hok
 ·rename_i c0 y y'
  split at hok
  ·rename_i x x' hc1 hc2;simp only[Bool.and_eq_true]at hok;obtain⟨cal,args,ats⟩:=c0;simp only at hc1 hc2
   subst hc1;have ea:args=#[x,x']:=by rw[← hc2]
   subst ea;have hr:=evX_rel hi hok.1;have hr':=evX_rel hi hok.2;simp only[evP]at he
   split at he
   ·rename_i a b hb hb';rw[hb]at hr;rw[hb']at hr';obtain⟨hv,hw⟩:=cr_int hr;obtain⟨hv',hw'⟩:=cr_int hr';simp only[Option.some.injEq]at he;subst he;exact⟨_,rp_int (by split<;>assumption),fun w' _=>by simp[execOp,resolve,invoke,builtin,Builtin.min_,Builtin.min2,hv,hv']⟩
   ·cases he
  ·cases hok
 ·rename_i c0 y y'
  split at hok
  ·rename_i x x' hc1 hc2;simp only[Bool.and_eq_true]at hok;obtain⟨cal,args,ats⟩:=c0;simp only at hc1 hc2
   subst hc1;have ea:args=#[x,x']:=by rw[← hc2]
   subst ea;have hr:=evX_rel hi hok.1;have hr':=evX_rel hi hok.2;simp only[evP]at he
   split at he
   ·rename_i a b hb hb';rw[hb]at hr;rw[hb']at hr';obtain⟨hv,hw⟩:=cr_int hr;obtain⟨hv',hw'⟩:=cr_int hr';simp only[Option.some.injEq]at he;subst he;exact⟨_,rp_int (by split<;>assumption),fun w' _=>by simp[execOp,resolve,invoke,builtin,Builtin.max_,Builtin.max2,hv,hv']⟩
   ·cases he
  ·cases hok
 ·simp only[Bool.and_eq_true,beq_iff_eq]at hok;obtain⟨h1,rfl⟩:=hok;have hr:=evX_rel hi h1;simp only[evP]at he
  split at he
  ·rename_i cs hb;rw[hb]at hr;simp only[CR]at hr;obtain⟨vs,h2,h3⟩:=hr;rw[nth_get]at he;obtain⟨v,hv,hc⟩:=h3.at_ he;exact⟨v,hc,fun w' _=>x_extract h2 (by simpa using hv)⟩
  ·cases he
 ·obtain⟨v,h1,h2⟩:=p_slc (dst:=dst) (ty:=ty) (pos:=pos) (aft:=aft) (gd:=gd) hi hok' he;exact⟨v,h1,fun w' _=>h2 w'⟩
 ·obtain⟨v,h1,h2⟩:=p_ssl (dst:=dst) (ty:=ty) (pos:=pos) (aft:=aft) (gd:=gd) hi hok' he;exact⟨v,h1,fun w' _=>h2 w'⟩
 ·obtain⟨v,h1,h2⟩:=p_sl2 (dst:=dst) (ty:=ty) (pos:=pos) (aft:=aft) (gd:=gd) hi hok' he;exact⟨v,h1,fun w' _=>h2 w'⟩
 ·have hr:=evX_rel hi hok;simp only[evP]at he
  split at he
  ·rename_i b o hb;simp only[Option.some.injEq]at he;subst he;rw[hb]at hr;refine⟨_,hr,fun w' _=>?_⟩;simp only[CR]at hr;simp[execOp,hr]
  ·rename_i cs hb;simp only[Option.some.injEq]at he;subst he;rw[hb]at hr;refine⟨_,hr,fun w' _=>?_⟩;simp only[CR]at hr;obtain⟨b,o,vs,F,hr,_⟩:=hr;simp[execOp,hr]
  ·rename_i r k i o hb;simp only[Option.some.injEq]at he;subst he;rw[hb]at hr;refine⟨_,hr,fun w' _=>?_⟩;simp only[CR]at hr;obtain⟨g,p,n,c,_,hr⟩:=hr;simp[execOp,hr]
  ·cases he
 ·obtain⟨v,h1,h2⟩:=p_bts (dst:=dst) (ty:=ty) (pos:=pos) (aft:=aft) (gd:=gd) hi hok' he;exact⟨v,h1,fun w' hs=>h2 w' (hs rfl)⟩
 ·cases hok
end
end
section
open Go.RowKit
inductive FOk:Option Nat→Fm→Fm→Prop where
 |skip {f:Fm}:FOk none f f
 |put {d:Nat} {f:Fm} {v:Value}:FOk (some d) f (upd f d v)
structure Tr (d:Option Nat) (X:List Nat) (γ:Gh) (w:World) (γ':Gh) (w':World) (f f':Fm):Prop where
 adv:Adv γ (fun o=>∃i∈X,o=.box i∨o=.row i) w w'
 β:∀b,d≠some b→γ'.β b=γ.β b
 h:∀g,γ.h g≤γ'.h g
 fr:FOk d f f'
theorem Adv.refl(γ:Gh)(M:Own→Prop)(w:World):Adv γ M w w:=⟨rfl,rfl,rfl,Nat.le_refl _,fun _ _ _=>rfl,fun _ _ _=>rfl,fun _ h=>h⟩
section
variable {γ:Gh} {h0:Nat→Nat} {io:List Nat} {w0:World} {s:St} {f:Fm} {w:World}
theorem adv_bel(hi:Inv γ h0 io w0 s f w){w1:World}(hk:Bel w.heap.size w w1)(M:Own→Prop):Adv γ M w w1 where
 os:=hk.os
 tape:=hk.tape
 output:=hk.output
 size:=hk.size
 block g hg _:=hk.block g hg
 cell g j hj:=by
  rcases Nat.lt_or_ge g w.heap.size with hl|hl
  ·exact World.cell?_of_block (w:=w) (hk.block g hl)
  ·have:=hi.hnew g hl;omega
 kthaw g hg:=⟨Nat.lt_of_lt_of_le hg.1 hk.size,fun j=>by rw[World.frozen?_of_block (w:=w) (hk.block g hg.1)];exact hg.2 j⟩
theorem Inv.bel(hi:Inv γ h0 io w0 s f w){w1:World}(hk:Bel w.heap.size w w1):Inv γ h0 io w0 s f w1:=
 hi.adv (adv_bel hi hk (fun _=>False)) (fun h=>h) (fun _ h=>h.elim) (fun _ h=>h.elim)
theorem Inv.ω_new(hi:Inv γ h0 io w0 s f w){g:Nat}(hg:w.heap.size≤g):γ.ω g=.free:=by
 rcases Decidable.em (γ.ω g=.free) with h|h
 ·exact h
 ·have:=(hi.own g h).1;omega
theorem Inv.addBox(hi:Inv γ h0 io w0 s f w){b g:Nat}{T:TypeId}{vs:List Value}{cs:List C}(hB:Blk w g T vs)(hfree:γ.ω g=.free∨γ.ω g=.lim)(hg:w0.heap.size≤g∨g∈io)(hh:γ.h g=0)(hc:CRs γ w cs vs) :
  ∃γ',Inv γ' h0 io w0 (s.newBox b (C.kills b cs)) f w∧γ'.β b=g∧(∀x,x≠b→γ'.β x=γ.β x)∧γ'.h=γ.h∧γ'.sl=γ.sl∧∀y,y≠g→γ'.ω y=γ.ω y:=by
 refine⟨{γ with β:=fun x=>if x=b then g else γ.β x,ω:=fun x=>if x=g then .box b else γ.ω x },?_,by simp,fun x hx=>by simp[hx],rfl,rfl,fun y hy=>by simp[hy]⟩;have mv:∀(c:C) {v:Value},CR γ w c v→CR {γ with β:=fun x=>if x=b then g else γ.β x,ω:=fun x=>if x=g then .box b else γ.ω x } w (C.kill b c) v:=fun c v h=>
  by refine CR.move (γ:=γ) b ?_ ?_ ?_ ?_ c h<;>intros<;>first|exact Nat.le_refl _|rfl|simp_all
 have mvs:∀(c:List C) {v:List Value},CRs γ w c v→CRs {γ with β:=fun x=>if x=b then g else γ.β x,ω:=fun x=>if x=g then .box b else γ.ω x } w (C.kills b c) v:=fun c v h=>
  by refine CRs.move (γ:=γ) b ?_ ?_ ?_ ?_ c h<;>intros<;>first|exact Nat.le_refl _|rfl|simp_all
 exact {
  sl:=fun d c hl=>by
   simp only[St.newBox,St.setBox,St.kill,look_killS,Option.map_eq_some_iff]at hl;obtain⟨c0,h1,rfl⟩:=hl;exact mv c0 (hi.sl d c0 h1)
  bx:=fun d c hl=>by
   simp only[St.newBox,St.setBox,St.kill,look,look_drp,look_killB]at hl;by_cases hd:b=d
   ·subst hd;simp only[if_true,Option.some.injEq]at hl;subst hl;exact⟨T,vs,by simpa using hB,mvs cs hc,by simp⟩
   ·simp only[if_neg hd,Option.map_eq_some_iff]at hl;obtain⟨c0,h1,rfl⟩:=hl;obtain⟨T',vs',h2,h3,h4⟩:=hi.bx d c0 h1;have hne:γ.β d≠g:=fun e=>by rcases hfree with h|h<;>rw[e,h]at h4<;>cases h4
    exact⟨T',vs',by simpa [Ne.symm hd] using h2,mvs c0 h3,by simp[Ne.symm hd,hne,h4]⟩
  rw:=fun r x hl=>by
   obtain⟨F,h1,h2,h3⟩:=hi.rw r x hl;refine⟨F,h1,h2,fun y hy=>?_⟩;have hne:y≠g:=fun e=>by have:=h3 y hy;rcases hfree with h|h<;>rw[e,h]at this<;>cases this
   simp[hne,h3 y hy]
  own:=fun y hy=>by
   by_cases he:y=g
   ·subst he;exact⟨hB.lt,hg⟩
   ·simp only[if_neg he]at hy;exact hi.own y hy
  hbox:=fun y x hy=>by
   by_cases he:y=g
   ·subst he;exact hh
   ·simp only[if_neg he]at hy;exact hi.hbox y x hy
  hnew:=hi.hnew,os:=hi.os,tape:=hi.tape,output:=hi.output,size:=hi.size,frame:=hi.frame,cell:=hi.cell,mono:=hi.mono,hold:=hi.hold,kthaw:=hi.kthaw }
theorem Inv.addRow(hi:Inv γ h0 io w0 s f w){r:Nat}{x:Row}{v:Value}{F:List Nat}(hR:RowR γ.h w x v F)(hnd:F.Nodup)(hF:∀g∈F,(γ.ω g=.free∨γ.ω g=.lim∨γ.ω g=.row r)∧g < w.heap.size∧(w0.heap.size≤g∨g∈io)) :
  ∃γ',Inv γ' h0 io w0 (s.newRow r x) f w∧γ'.sl r=v∧γ'.β=γ.β∧γ'.h=γ.h∧(∀g,g∉F→γ'.ω g=γ.ω g)∧∀q,q≠r→γ'.sl q=γ.sl q:=by
 refine⟨{γ with sl:=fun q=>if q=r then v else γ.sl q,ω:=fun y=>if y∈F then .row r else γ.ω y },?_,by simp,rfl,rfl,fun g hg=>by simp[hg],fun q hq=>by simp[hq]⟩;have mv:∀(c:C) {v':Value},CR γ w c v'→CR {γ with sl:=fun q=>if q=r then v else γ.sl q,ω:=fun y=>if y∈F then .row r else γ.ω y } w (C.kill r c) v':=fun c v' h=>
  by refine CR.move (γ:=γ) r ?_ ?_ ?_ ?_ c h<;>intros<;>first|exact Nat.le_refl _|rfl|simp_all
 have mvs:∀(c:List C) {v':List Value},CRs γ w c v'→CRs {γ with sl:=fun q=>if q=r then v else γ.sl q,ω:=fun y=>if y∈F then .row r else γ.ω y } w (C.kills r c) v':=fun c v' h=>
  by refine CRs.move (γ:=γ) r ?_ ?_ ?_ ?_ c h<;>intros<;>first|exact Nat.le_refl _|rfl|simp_all
 exact {
  sl:=fun d c hl=>by
   simp only[St.newRow,St.setRow,St.kill,look_killS,Option.map_eq_some_iff]at hl;obtain⟨c0,h1,rfl⟩:=hl;exact mv c0 (hi.sl d c0 h1)
  bx:=fun d c hl=>by
   simp only[St.newRow,St.setRow,St.kill,look_killB,Option.map_eq_some_iff]at hl;obtain⟨c0,h1,rfl⟩:=hl;obtain⟨T',vs',h2,h3,h4⟩:=hi.bx d c0 h1;refine⟨T',vs',h2,mvs c0 h3,?_⟩;have hne:γ.β d∉F:=fun e=>by
    rcases (hF _ e).1 with h|h|h<;>rw[h4]at h<;>cases h
   simp[hne,h4]
  rw:=fun q y hl=>by
   simp only[St.newRow,St.setRow,St.kill,look,look_drp]at hl;by_cases hd:r=q
   ·subst hd;simp only[if_true,Option.some.injEq]at hl;subst hl;exact⟨F,by simpa using hR,hnd,fun g hg=>by simp[hg]⟩
   ·simp only[if_neg hd]at hl;obtain⟨F',h1,h2,h3⟩:=hi.rw q y hl;refine⟨F',by simpa [Ne.symm hd] using h1,h2,fun g hg=>?_⟩;have hne:g∉F:=fun e=>by
     rcases (hF _ e).1 with h|h|h
     ·rw[h3 g hg]at h;cases h
     ·rw[h3 g hg]at h;cases h
     ·rw[h3 g hg]at h;cases h;exact hd rfl
    simp[hne,h3 g hg]
  own:=fun y hy=>by
   by_cases he:y∈F
   ·exact (hF y he).2
   ·simp only[if_neg he]at hy;exact hi.own y hy
  hbox:=fun y x hy=>by
   by_cases he:y∈F
   ·simp only[if_pos he]at hy;cases hy
   ·simp only[if_neg he]at hy;exact hi.hbox y x hy
  hnew:=hi.hnew,os:=hi.os,tape:=hi.tape,output:=hi.output,size:=hi.size,frame:=hi.frame,cell:=hi.cell,mono:=hi.mono,hold:=hi.hold,kthaw:=hi.kthaw }
theorem Inv.setRow(hi:Inv γ h0 io w0 s f w){r:Nat}{x:Row}{F:List Nat}(hR:RowR γ.h w x (γ.sl r) F)(hnd:F.Nodup)(hF:∀g∈F,(γ.ω g=.free∨γ.ω g=.lim∨γ.ω g=.row r)∧g < w.heap.size∧(w0.heap.size≤g∨g∈io)) :
  ∃γ',Inv γ' h0 io w0 (s.setRow r x) f w∧γ'.sl=γ.sl∧γ'.β=γ.β∧γ'.h=γ.h∧∀g,γ'.ω g=γ.ω g∨γ'.ω g=.row r:=by
 refine⟨{γ with ω:=fun y=>if y∈F then .row r else γ.ω y },?_,rfl,rfl,rfl,fun g=>by dsimp only;split<;>simp⟩;have mv:∀(c:C) {v':Value},CR γ w c v'→CR {γ with ω:=fun y=>if y∈F then .row r else γ.ω y } w c v':=fun c v' h=>
  by refine CR.mono (γ:=γ) ?_ ?_ ?_ ?_ c h<;>intros<;>first|exact Nat.le_refl _|rfl
 have mvs:∀(c:List C) {v':List Value},CRs γ w c v'→CRs {γ with ω:=fun y=>if y∈F then .row r else γ.ω y } w c v':=fun c v' h=>
  by refine CRs.mono (γ:=γ) ?_ ?_ ?_ ?_ c h<;>intros<;>first|exact Nat.le_refl _|rfl
 exact {
  sl:=fun d c hl=>mv c (hi.sl d c hl)
  bx:=fun d c hl=>by
   obtain⟨T',vs',h2,h3,h4⟩:=hi.bx d c hl;refine⟨T',vs',h2,mvs c h3,?_⟩;have hne:γ.β d∉F:=fun e=>by
    rcases (hF _ e).1 with h|h|h<;>rw[h4]at h<;>cases h
   simp[hne,h4]
  rw:=fun q y hl=>by
   simp only[St.setRow,look,look_drp]at hl;by_cases hd:r=q
   ·subst hd;simp only[if_true,Option.some.injEq]at hl;subst hl;exact⟨F,hR,hnd,fun g hg=>by simp[hg]⟩
   ·simp only[if_neg hd]at hl;obtain⟨F',h1,h2,h3⟩:=hi.rw q y hl;refine⟨F',h1,h2,fun g hg=>?_⟩;have hne:g∉F:=fun e=>by
     rcases (hF _ e).1 with h|h|h
     ·rw[h3 g hg]at h;cases h
     ·rw[h3 g hg]at h;cases h
     ·rw[h3 g hg]at h;cases h;exact hd rfl
    simp[hne,h3 g hg]
  own:=fun y hy=>by
   by_cases he:y∈F
   ·exact (hF y he).2
   ·simp only[if_neg he]at hy;exact hi.own y hy
  hbox:=fun y x hy=>by
   by_cases he:y∈F
   ·simp only[if_pos he]at hy;cases hy
   ·simp only[if_neg he]at hy;exact hi.hbox y x hy
  hnew:=hi.hnew,os:=hi.os,tape:=hi.tape,output:=hi.output,size:=hi.size,frame:=hi.frame,cell:=hi.cell,mono:=hi.mono,hold:=hi.hold,kthaw:=hi.kthaw }
theorem Inv.setBox(hi:Inv γ h0 io w0 s f w){b:Nat}{T:TypeId}{vs:List Value}{cs:List C}(hB:Blk w (γ.β b) T vs)(hω:γ.ω (γ.β b)=.box b)(hc:CRs γ w cs vs):Inv γ h0 io w0 (s.setBox b cs) f w:=
 {hi with
  bx:=fun d c hl=>by
   simp only[St.setBox,look,look_drp]at hl;by_cases hd:b=d
   ·subst hd;simp only[if_true,Option.some.injEq]at hl;subst hl;exact⟨T,vs,hB,hc,hω⟩
   ·simp only[if_neg hd]at hl;exact hi.bx d c hl }
theorem Inv.dropRow(hi:Inv γ h0 io w0 s f w)(r:Nat):Inv γ h0 io w0 (s.dropRow r) f w:=
 hi.sub (fun _ _ h=>h) (fun _ _ h=>h) (fun d c h=>by
  simp only[St.dropRow,look_drp]at h
  split at h
  ·cases h
  ·exact h)
theorem Inv.take(hi:Inv γ h0 io w0 s f w){r:Nat}{x:Row}(hl:look s.rw r=some x) :
  ∃γ' G,Inv γ' h0 io w0 (s.dropRow r) f w∧γ'.β=γ.β∧γ'.sl=γ.sl∧(∀g,γ.h g≤γ'.h g)∧Rp w (.list x.k x.fl x.es) (γ.sl r) G∧
   ((x.deep && !x.fz)=false→Settled γ'.h G)∧((x.deep && !x.fz)=true→(G.map Prod.fst).Nodup∧∀be∈G,γ'.ω be.1=.lim∧γ'.h be.1=0∧Thaw w be.1)∧
   (∀be∈G,γ.ω be.1=.row r∨x.deep=false)∧(∀g,γ.ω g≠.row r→γ'.ω g=γ.ω g∧γ'.h g=γ.h g)∧∀g,γ'.ω g=γ.ω g∨γ'.ω g=.lim∨γ'.ω g=.free:=by
 obtain⟨F,hR,hnd,hω⟩:=hi.rw r x hl;obtain⟨A,n,c,q1,q2,q3,q4,q5,q6,q7,q8⟩:=hR;have hdr:=hi.dropRow r;have nolive:∀g,γ.ω g=.row r→(∀b cs,look (s.dropRow r).bx b=some cs→γ.ω g≠.box b)∧∀q y,look (s.dropRow r).rw q=some y→γ.ω g≠.row q:=by
  intro g hg;refine⟨fun b cs _=>by rw[hg];simp,fun q y hq=>?_⟩;rw[hg];simp only[St.dropRow,look_drp]at hq
  split at hq
  ·cases hq
  ·rename_i hne;intro e;cases e;exact hne rfl
 rcases q8 with ⟨rfl,rfl,rfl⟩|⟨g,o,xs,G,rfl,a2,a3,a4,a5,a6,a7,a8,a9,a10⟩
 ·refine⟨γ,[],hdr,rfl,rfl,fun _=>Nat.le_refl _,?_,fun _ _ h=>by simp at h,fun _=>by simp,fun _ h=>by simp at h,fun _ _=>⟨rfl,rfl⟩,fun _=>.inl rfl⟩;simp only[Rp];exact⟨none,n,0,q1,q2,q3,q4,q7,q5,q6,.inl ⟨by omega,trivial⟩⟩
 ·by_cases hn:n=0
  ·refine⟨γ,[],hdr,rfl,rfl,fun _=>Nat.le_refl _,?_,fun _ _ h=>by simp at h,fun _=>by simp,fun _ h=>by simp at h,fun _ _=>⟨rfl,rfl⟩,fun _=>.inl rfl⟩;simp only[Rp];exact⟨_,n,c,q1,q2,q3,q4,q7,q5,q6,.inl ⟨hn,trivial⟩⟩
  ·have hrp:Rp w (.list x.k x.fl x.es) (γ.sl r) ((g,o+n * x.k)::G):=by
    simp only[Rp];exact⟨_,n,c,q1,q2,q3,q4,q7,q5,q6,.inr ⟨by omega,g,o,xs,G,rfl,rfl,a4,a5⟩⟩
   have hgω:γ.ω g=.row r:=by
    cases hd:x.deep with
    |true=>exact hω g (by rw[(a9 hd).1];simp)
    |false=>exact hω g (by rw[(a10 hd).1];simp)
   by_cases hdz:(x.deep && !x.fz)=true
   ·simp only[Bool.and_eq_true,Bool.not_eq_true']at hdz;obtain⟨hF,hz⟩:=a9 hdz.1;have hs:=hdr.settle (h':=γ.h) (ω':=fun y=>if γ.ω y=.row r then .lim else γ.ω y) (fun _=>Nat.le_refl _) (fun g hg=>absurd rfl hg)
     (fun y=>by
      by_cases hy:γ.ω y=.row r
      ·exact .inr ⟨.inr (by simp[hy]),by rw[hy];simp,nolive y hy⟩
      ·exact .inl (by simp[hy]))
     (fun y b hy=>by
      by_cases hy':γ.ω y=.row r
      ·simp[hy']at hy
      ·simp only[if_neg hy']at hy;exact hi.hbox y b hy)
    refine⟨_,(g,o+n * x.k)::G,hs,rfl,rfl,fun _=>Nat.le_refl _,hrp,fun h=>by simp[hdz.1,hdz.2]at h,fun _=>⟨by rw[List.map_cons,← hF];exact hnd,fun be hb=>?_⟩,fun be hb=>.inl ?_,fun y hy=>by simp[hy],fun y=>by dsimp only;split<;>simp⟩
    ·rcases List.mem_cons.1 hb with rfl|hb
     ·exact⟨by simp[hgω],a7 hdz.2,a3⟩
     ·have hm:γ.ω be.1=.row r:=hω _ (by rw[hF];simp;exact .inr ⟨be.2,hb⟩);exact⟨by simp[hm],hz be hb⟩
    ·rcases List.mem_cons.1 hb with rfl|hb
     ·exact hgω
     ·exact hω _ (by rw[hF];simp;exact .inr ⟨be.2,hb⟩)
   ·
    have hfst:∀be∈G,x.deep=true→γ.ω be.1=.row r:=fun be hb hd=>hω _ (by rw[(a9 hd).1];simp;exact .inr ⟨be.2,hb⟩);have hnew:∃h':Nat→Nat,(∀y,γ.h y≤h' y)∧Settled h' ((g,o+n * x.k)::G)∧∀y,γ.ω y≠.row r→h' y=γ.h y:=by
     refine⟨fun y=>if γ.ω y=.row r then γ.h y+((((g,o+n * x.k)::G).map Prod.snd).foldl max 0) else γ.h y,fun y=>by dsimp only;split<;>omega,?_,fun y hy=>by simp[hy]⟩;have mx:∀(l:List Nat) (a b:Nat),(b=a∨b∈l)→b≤l.foldl max a:=by
      intro l
      induction l with
      |nil=>intro a b hb;simp at hb;simp[hb]
      |cons z l ih=>
       intro a b hb;simp only[List.foldl_cons];have h1:=ih (max a z) (max a z) (.inl rfl);rcases hb with rfl|hb
       ·omega
       ·rcases List.mem_cons.1 hb with rfl|hb
        ·omega
        ·exact ih _ _ (.inr hb)
     intro be hb;have hle:=mx (((g,o+n * x.k)::G).map Prod.snd) 0 be.2 (.inr (List.mem_map_of_mem hb));by_cases hy:γ.ω be.1=.row r
     ·simp only[hy,if_true];omega
     ·simp only[if_neg hy];rcases List.mem_cons.1 hb with rfl|hb
      ·exact absurd hgω hy
      ·cases hd:x.deep with
       |true=>exact absurd (hfst be hb hd) hy
       |false=>exact (a10 hd).2 be hb
    obtain⟨h',m1,m2,m3⟩:=hnew;have hs:=hdr.settle (h':=h') (ω':=fun y=>if γ.ω y=.row r then .free else γ.ω y) m1
     (fun y hy=>by
      have hr:γ.ω y=.row r:=by
       rcases Decidable.em (γ.ω y=.row r) with h|h
       ·exact h
       ·exact absurd (m3 y h) hy
      have ho:=hi.own y (by rw[hr];simp);exact⟨ho.1,ho.2,nolive y hr⟩)
     (fun y=>by
      by_cases hy:γ.ω y=.row r
      ·exact .inr ⟨.inl (by simp[hy]),by rw[hy];simp,nolive y hy⟩
      ·exact .inl (by simp[hy]))
     (fun y b hy=>by
      by_cases hy':γ.ω y=.row r
      ·simp[hy']at hy
      ·simp only[if_neg hy']at hy;rw[m3 y hy'];exact hi.hbox y b hy)
    refine⟨_,_,hs,rfl,rfl,m1,hrp,fun _=>m2,fun h=>absurd h hdz,fun be hb=>?_,fun y hy=>by simp[hy,m3 y hy],fun y=>by dsimp only;split<;>simp⟩;cases hd:x.deep with
    |false=>exact .inr rfl
    |true=>
     rcases List.mem_cons.1 hb with rfl|hb
     ·exact .inl hgω
     ·exact .inl (hfst be hb hd)
end
theorem Bel.next'{a w w':World}(h:Bel a.heap.size a w)(hk:Bel w.heap.size w w'):Bel a.heap.size a w':=bel_next h hk h.size
section
variable {P:Program} {w:World}
theorem run_app {t ty e : TypeId} {i : TypeInfo} {z : Value} {k by_ : Nat} (ht : P.underlying t = some (.slice e)) (hi : P.info? e = some i) (hz : i.zero = some z) (hsize : i.size = k) (hby : i.bytes = by_) (hzs : z.cells.size = k) (hk : 0 < k)
    {v : Value} {n : Nat} {xs : List Value} (hx : xs.length = n * k) (hv : (v = .slice none 0 0 ∧ n = 0) ∨ ∃ g cap T cur, v = .slice (some ⟨g, 0, none⟩) n cap ∧ Blk w g T cur ∧ n ≤ cap ∧ cap ≤ maxLen ∧ cur.length = cap * k ∧ cur.take (n * k) = xs)
    {u : Value} {m : Nat} {news : List Value} (hl : news.length = m * k) (hu : (m = 0 ∧ ∃ A c, u = .slice A 0 c) ∨ ∃ b o c, u = .slice (some ⟨b, o, none⟩) m c ∧ Lies w b o news) (h1 : ∀ y ∈ news, one y = true) (h63 : n + m ≤ maxLen) (hbytes : (n + m) * by_ ≤ room) :
    ∃ v' w', (Builtin.append_ #[t, t] ty #[v, u]).run P w = .ok v' w' ∧
      ((m = 0 ∧ v' = v ∧ w' = w) ∨
       (∃ g cap T cur, v = .slice (some ⟨g, 0, none⟩) n cap ∧ Blk w g T cur ∧ v' = .slice (some ⟨g, 0, none⟩) (n + m) cap ∧ n + m ≤ cap ∧ cap ≤ maxLen ∧ cur.length = cap * k ∧ cur.take (n * k) = xs ∧ w' = setB w g (.cells (splice cur (n * k) news).toArray T (0, 0))) ∨
       (∃ cap cs, v' = .slice (some ⟨w.heap.size, 0, none⟩) (n + m) cap ∧ n + m ≤ cap ∧ cap ≤ maxLen ∧ w'.heap.size = w.heap.size + 1 ∧ Bel w.heap.size w w' ∧ Blk w' w.heap.size e cs ∧ cs.length = cap * k ∧ cs.take ((n + m) * k) = xs ++ news)) := by
  subst hsize
  subst hby
  have hsmall : n + m ≤ 9223372036854775807 := by simp only [maxLen] at h63; omega
  have hroom : (n + m) * i.bytes ≤ 140737488355328 := hbytes
  have hlen : (xs ++ news).length = (n + m) * i.size := by rw [List.length_append, hx, hl, Nat.add_mul]
  by_cases hm : m = 0
  · subst hm
    have hn : news = [] := List.eq_nil_of_length_eq_zero (by simpa using hl)
    subst hn
    refine ⟨v, w, ?_, .inl ⟨rfl, rfl, rfl⟩⟩
    rcases hv with ⟨rfl, rfl⟩ | ⟨g, cap, T, cur, rfl, hB, hnc, hcm, hcs, htk⟩
    · rcases hu with ⟨_, A, c, rfl⟩ | ⟨b, o, c, rfl, _⟩
      · cases A <;> simp [Builtin.append_, run_underlying ht, sizeOf, typeInfo, hi, Builtin.lenOf, Builtin.firstCells, loadCells, loadCellsFrom]
      · simp [Builtin.append_, run_underlying ht, sizeOf, typeInfo, hi, Builtin.lenOf, Builtin.firstCells, loadCells, loadCellsFrom]
    · rcases hu with ⟨_, A, c, rfl⟩ | ⟨b, o, c, rfl, _⟩
      · cases A <;> simp [Builtin.append_, run_underlying ht, sizeOf, typeInfo, hi, Builtin.lenOf, Builtin.firstCells, loadCells, loadCellsFrom, hnc, storeCells]
      · simp [Builtin.append_, run_underlying ht, sizeOf, typeInfo, hi, Builtin.lenOf, Builtin.firstCells, loadCells, loadCellsFrom, hnc, storeCells]
  · rcases hu with ⟨h, _⟩ | ⟨b, o, c, rfl, hlies⟩
    · omega
    · have hnews : ∀ j y, news[j]? = some y → w.cell? ((⟨b, o, none⟩ : Addr).add j) = some y := by
        intro j y hy
        rw [add_mk]
        exact hlies j y hy
      have grown : ∀ (old : Nat), old < n + m →
          (∃ cap cs, (Value.slice (some ⟨w.heap.size, 0, none⟩) (n + m) (grownCap w (n + m) old e)) = .slice (some ⟨w.heap.size, 0, none⟩) (n + m) cap ∧ n + m ≤ cap ∧ cap ≤ maxLen ∧ (w.drew.alloc (.cells (xs.toArray ++ news.toArray ++ Builtin.zeroCells z.cells (grownCap w (n + m) old e - (n + m))) e)).heap.size = w.heap.size + 1 ∧
            Bel w.heap.size w (w.drew.alloc (.cells (xs.toArray ++ news.toArray ++ Builtin.zeroCells z.cells (grownCap w (n + m) old e - (n + m))) e)) ∧ Blk (w.drew.alloc (.cells (xs.toArray ++ news.toArray ++ Builtin.zeroCells z.cells (grownCap w (n + m) old e - (n + m))) e)) w.heap.size e cs ∧ cs.length = cap * i.size ∧ cs.take ((n + m) * i.size) = xs ++ news) := by
        intro old ho
        have hge := grownCap_ge w (n + m) old e
        have hcm : grownCap w (n + m) old e ≤ maxLen := grownCap_le_maxLen w (n + m) old e h63
        refine ⟨_, (xs ++ news) ++ (Builtin.zeroCells z.cells (grownCap w (n + m) old e - (n + m))).toList, rfl, hge, hcm, by rw [size_alloc]; rfl, ?_, ?_, ?_, ?_⟩
        · exact (bel_refl w).drew.next' (bel_alloc w.drew _ _)
        · have e1 : xs.toArray ++ news.toArray ++ Builtin.zeroCells z.cells (grownCap w (n + m) old e - (n + m)) = ((xs ++ news) ++ (Builtin.zeroCells z.cells (grownCap w (n + m) old e - (n + m))).toList).toArray := by
            apply Array.ext'
            simp
          rw [e1]
          exact Blk.new w.drew e _
        · rw [List.length_append, hlen, Array.length_toList, size_zeroCells, hzs, ← Nat.add_mul]
          congr 1
          omega
        · rw [← hlen]; exact List.take_left
      rcases hv with ⟨rfl, rfl⟩ | ⟨g, cap, T, cur, rfl, hB, hnc, hcm, hcs, htk⟩
      · have hx0 : xs = [] := List.eq_nil_of_length_eq_zero (by simpa using hx)
        subst hx0
        have hr := run_append_nil (P := P) w t ty e i z ht hi hz ⟨b, o, none⟩ m c news hl hnews (by omega) (by omega) (by have hb := hroom; simp only [Nat.zero_add] at hb; omega)
        have hg := grown 0 (by omega)
        simp only [Nat.zero_add, List.nil_append, Array.empty_append] at hg ⊢
        exact ⟨_, _, hr, .inr (.inr hg)⟩
      · by_cases hrm : n + m ≤ cap
        · have hfit : n * i.size + news.length ≤ cur.length := by rw [hl, hcs, ← Nat.add_mul]; exact Nat.mul_le_mul_right _ hrm
          have hf := run_firstCells_some (P := P) w i.size m ⟨b, o, none⟩ m c news hl hnews
          have hst := run_storeCells (P := P) (o := n * i.size) news 0 w cur hB (by simpa using hfit) h1
          simp only [Nat.add_zero] at hst
          refine ⟨_, _, ?_, .inr (.inl ⟨g, cap, T, cur, rfl, hB, rfl, hrm, hcm, hcs, htk, rfl⟩)⟩
          simp [Builtin.append_, run_underlying ht, sizeOf, typeInfo, hi, Builtin.lenOf, hrm, hf, Addr.add_lit, hst]
        · have holds : ∀ j y, xs[j]? = some y → w.cell? ((⟨g, 0, none⟩ : Addr).add j) = some y := by
            intro j y hy
            rw [add_mk, Nat.zero_add, hB.cell]
            rw [← htk, List.getElem?_take] at hy
            split at hy
            · exact hy
            · cases hy
          have hr := run_append_grow (P := P) w t ty e i z ht hi hz ⟨g, 0, none⟩ n cap xs hx holds ⟨b, o, none⟩ m c news hl hnews (by omega) (by omega) (growslice_fits (by omega) hroom)
          exact ⟨_, _, hr, .inr (.inr (grown cap (by omega)))⟩
end
end
section
open Go.RowKit
def Lim(γ:Gh)(w:World)(g:Nat):Prop:=γ.ω g=.lim∧γ.h g=0∧Thaw w g
section
variable {h0:Nat→Nat} {io:List Nat} {w0:World} {f:Fm} {w:World}
theorem emb_cell:∀{cs:List C} {s s':St} {ds:List D} {dp:Bool},emb s cs=some (ds,dp,s')→cs.all C.cell=true∧ds.length=cs.length
 |[],s,s',ds,dp,h=>by simp[emb]at h;simp[← h.1]
 |c::cs,s,s',ds,dp,h=>by
  unfold emb at h;cases c with
  |d x=>
   simp only[Option.map_eq_some_iff]at h;obtain⟨⟨ds',dp',s1⟩,h1,h2⟩:=h;simp only[Prod.mk.injEq]at h2;have:=emb_cell h1;simp[C.cell,this.1,← h2.1,this.2]
  |nil k fl=>
   simp only[Option.map_eq_some_iff]at h;obtain⟨⟨ds',dp',s1⟩,h1,h2⟩:=h;simp only[Prod.mk.injEq]at h2;have:=emb_cell h1;simp[C.cell,this.1,← h2.1,this.2]
  |ref r=>
   simp only at h
   split at h
   ·simp only[Option.map_eq_some_iff]at h;obtain⟨⟨ds',dp',s1⟩,h1,h2⟩:=h;simp only[Prod.mk.injEq]at h2;have:=emb_cell h1;simp[C.cell,this.1,← h2.1,this.2]
   ·cases h
  |_=>simp at h
structure Emb (γ:Gh) (w:World) (dp:Bool) (G:Fp) (γ':Gh):Prop where
 β:γ'.β=γ.β
 sl:γ'.sl=γ.sl
 h:∀g,γ.h g≤γ'.h g
 some_:∀be∈G,be.2≤γ'.h be.1∨Lim γ' w be.1
 deep:dp=true→(G.map Prod.fst).Nodup∧∀be∈G,Lim γ' w be.1∧γ.ω be.1≠.lim
 lim:∀g,γ.ω g=.lim→γ'.ω g=.lim∧γ'.h g=γ.h g
 own:∀g,γ'.ω g=γ.ω g∨γ'.ω g=.lim∨γ'.ω g=.free
theorem emb_rel:∀(cs:List C) {γ:Gh} {s s':St} {vs:List Value} {ds:List D} {dp:Bool},Inv γ h0 io w0 s f w→CRs γ w cs vs→emb s cs=some (ds,dp,s')→
  ∃γ' G,Inv γ' h0 io w0 s' f w∧RpC w ds vs G∧Emb γ w dp G γ'
 |[],γ,s,s',vs,ds,dp,hi,hc,he=>by
  simp[emb]at he;obtain⟨rfl,rfl,rfl⟩:=he;simp only[CRs]at hc;subst hc;exact⟨γ,[],hi,by simp[RpC],⟨rfl,rfl,fun _=>Nat.le_refl _,fun _ h=>by simp at h,fun _=>by simp,fun _ h=>⟨h,rfl⟩,fun _=>.inl rfl⟩⟩
 |c::cs,γ,s,s',vs,ds,dp,hi,hc,he=>by
  simp only[CRs]at hc;obtain⟨v,vs',rfl,hv,hvs⟩:=hc;unfold emb at he;cases c with
  |d x=>
   simp only[Option.map_eq_some_iff]at he;obtain⟨⟨ds',dp',s1⟩,h1,h2⟩:=he;simp only[Prod.mk.injEq]at h2;obtain⟨rfl,rfl,rfl⟩:=h2;obtain⟨γ',G,i1,r1,e1⟩:=emb_rel cs hi hvs h1;simp only[CR]at hv;obtain⟨F,hr,hs⟩:=hv;refine⟨γ',F++G,i1,by simp only[RpC];exact⟨v,vs',F,G,rfl,rfl,hr,r1⟩,⟨e1.β,e1.sl,e1.h,fun be hb=>?_,fun hd=>?_,e1.lim,e1.own⟩⟩
   ·rcases List.mem_append.1 hb with hb|hb
    ·exact .inl (Nat.le_trans (hs be hb) (e1.h _))
    ·exact e1.some_ be hb
   ·simp only[Bool.and_eq_true]at hd;have hF:F=[]:=by
     have:RpC w [x] [v] F:=by simp only[RpC];exact⟨v,[],F,[],rfl,by simp,hr,rfl,rfl⟩
     exact this.plain (by simp[hd.1])
    subst hF;exact e1.deep hd.2
  |nil k fl=>
   simp only[Option.map_eq_some_iff]at he;obtain⟨⟨ds',dp',s1⟩,h1,h2⟩:=he;simp only[Prod.mk.injEq]at h2;obtain⟨rfl,rfl,rfl⟩:=h2;obtain⟨γ',G,i1,r1,e1⟩:=emb_rel cs hi hvs h1;simp only[CR]at hv;obtain⟨rfl,hk⟩:=hv;refine⟨γ',G,i1,?_,e1⟩;simp only[RpC];refine⟨_,vs',[],G,rfl,rfl,?_,r1⟩;simp only[Rp];exact⟨none,0,0,rfl,rfl,Nat.le_refl _,by simp[maxLen],fun _=>flat_nil,hk,fun _ h=>by simp at h,.inl ⟨rfl,trivial⟩⟩
  |ref r=>
   simp only at he
   split at he
   ·rename_i x hx;simp only[Option.map_eq_some_iff]at he;obtain⟨⟨ds',dp',s1⟩,h1,h2⟩:=he;simp only[Prod.mk.injEq]at h2;obtain⟨rfl,rfl,rfl⟩:=h2;obtain⟨γ1,G1,i1,b1,sl1,m1,r1,s1',d1,o1,k1,w1⟩:=hi.take hx;obtain⟨γ2,G2,i2,r2,e2⟩:=emb_rel cs i1 (hvs.mono (γ':=γ1) m1 (fun _ _ _=>rfl) b1 sl1 cs) h1;simp only[CR]at hv;have up:∀be∈G1,(x.deep && !x.fz)=true→Lim γ2 w be.1:=fun be hb hd=>by
     obtain⟨_,hl⟩:=d1 hd;obtain⟨l1,l2,l3⟩:=hl be hb;obtain⟨u1,u2⟩:=e2.lim _ l1;exact⟨u1,u2.trans l2,l3⟩
    refine⟨γ2,G1++G2,i2,by simp only[RpC];exact⟨v,vs',G1,G2,rfl,rfl,by rw[hv.1];exact r1,r2⟩,⟨e2.β.trans b1,e2.sl.trans sl1,fun g=>Nat.le_trans (m1 g) (e2.h g),fun be hb=>?_,fun hd=>?_,fun g hg=>?_,fun g=>?_⟩⟩
    ·rcases List.mem_append.1 hb with hb|hb
     ·cases hd:(x.deep && !x.fz) with
      |true=>exact .inr (up be hb hd)
      |false=>exact .inl (Nat.le_trans (s1' hd be hb) (e2.h _))
     ·exact e2.some_ be hb
    ·rw[Bool.and_eq_true]at hd;obtain⟨hd1,hd2⟩:=hd;obtain⟨n1,l1⟩:=d1 hd1;obtain⟨n2,l2⟩:=e2.deep hd2;have hdeep:x.deep=true:=by simp at hd1;exact hd1.1
     refine⟨?_,fun be hb=>?_⟩
     ·rw[List.map_append,List.nodup_append];refine⟨n1,n2,?_⟩;intro a ha b hb e;subst e;obtain⟨be1,hb1,rfl⟩:=List.mem_map.1 ha;obtain⟨be2,hb2,e2'⟩:=List.mem_map.1 hb;exact (l2 be2 hb2).2 (by rw[e2'];exact (l1 be1 hb1).1)
     ·rcases List.mem_append.1 hb with hb|hb
      ·refine⟨up be hb hd1,?_⟩;rcases o1 be hb with h|h
       ·rw[h];simp
       ·rw[hdeep]at h;cases h
      ·refine⟨(l2 be hb).1,fun h=>(l2 be hb).2 ?_⟩;rw[(k1 be.1 (by rw[h];simp)).1];exact h
    ·have h3:=k1 g (by rw[hg];simp);obtain⟨u1,u2⟩:=e2.lim g (by rw[h3.1];exact hg);exact⟨u1,u2.trans h3.2⟩
    ·rcases e2.own g with h|h
     ·rw[h];exact w1 g
     ·exact .inr h
   ·cases he
  |_=>simp at he
theorem Inv.settleG{γ:Gh}{s:St}(hi:Inv γ h0 io w0 s f w)(G:Fp)(hG:∀be∈G,be.2≤γ.h be.1∨Lim γ w be.1) :
  ∃γ',Inv γ' h0 io w0 s f w∧γ'.β=γ.β∧γ'.sl=γ.sl∧(∀g,γ.h g≤γ'.h g)∧Settled γ'.h G∧(∀g,γ.ω g=.free→γ'.ω g=.free)∧∀g,γ.ω g≠.lim→γ'.h g=γ.h g:=by
 have mx:∀(l:List Nat) (a b:Nat),(b=a∨b∈l)→b≤l.foldl max a:=by
  intro l
  induction l with
  |nil=>intro a b hb;simp at hb;simp[hb]
  |cons z l ih=>
   intro a b hb;simp only[List.foldl_cons];have h1:=ih (max a z) (max a z) (.inl rfl);rcases hb with rfl|hb
   ·omega
   ·rcases List.mem_cons.1 hb with rfl|hb
    ·omega
    ·exact ih _ _ (.inr hb)
 have hs:=hi.settle (h':=fun y=>if γ.ω y=.lim then γ.h y+(G.map Prod.snd).foldl max 0 else γ.h y) (ω':=fun y=>if γ.ω y=.lim then .free else γ.ω y) (fun y=>by split<;>omega)
  (fun y hy=>by
   have hl:γ.ω y=.lim:=by
    rcases Decidable.em (γ.ω y=.lim) with h|h
    ·exact h
    ·exact absurd (by simp[h]) hy
   have ho:=hi.own y (by rw[hl];simp);exact⟨ho.1,ho.2,fun _ _ _=>by rw[hl];simp,fun _ _ _=>by rw[hl];simp⟩)
  (fun y=>by
   by_cases hl:γ.ω y=.lim
   ·exact .inr ⟨.inl (by simp[hl]),by rw[hl];simp,fun _ _ _=>by rw[hl];simp,fun _ _ _=>by rw[hl];simp⟩
   ·exact .inl (by simp[hl]))
  (fun y b hy=>by
   by_cases hl:γ.ω y=.lim
   ·simp[hl]at hy
   ·simp only[if_neg hl]at hy ⊢;exact hi.hbox y b hy)
 refine⟨_,hs,rfl,rfl,fun y=>by dsimp only;split<;>omega,fun be hb=>?_,fun g hg=>by simp[hg],fun g hg=>by simp[hg]⟩;have hle:=mx (G.map Prod.snd) 0 be.2 (.inr (List.mem_map_of_mem hb));dsimp only;split
 ·omega
 ·rename_i hl;rcases hG be hb with h|h
  ·exact h
  ·exact absurd h.1 hl
theorem embs_rel{k:Nat}{fl:Bool}:∀(cs:List C) {γ:Gh} {s s':St} {vs:List Value} {es:List (List D)} {dp:Bool},Inv γ h0 io w0 s f w→CRs γ w cs vs→embs k fl s cs=some (es,dp,s')→
  ∃γ' G,Inv γ' h0 io w0 s' f w∧RpE w es (vs.flatMap fun v=>v.cells.toList) G∧Emb γ w dp G γ'∧es.length=cs.length∧(∀e∈es,e.length=k)∧(fl=true→flat es)∧∀v∈vs,v.cells.size=k
 |[],γ,s,s',vs,es,dp,hi,hc,he=>by
  simp[embs]at he;obtain⟨rfl,rfl,rfl⟩:=he;simp only[CRs]at hc;subst hc;exact⟨γ,[],hi,by simp[RpE],⟨rfl,rfl,fun _=>Nat.le_refl _,fun _ h=>by simp at h,fun _=>by simp,fun _ h=>⟨h,rfl⟩,fun _=>.inl rfl⟩,rfl,fun _ h=>by simp at h,fun _=>flat_nil,fun _ h=>by simp at h⟩
 |c::cs,γ,s,s',vs,es,dp,hi,hc,he=>by
  simp only[CRs]at hc;obtain⟨v,vs',rfl,hv,hvs⟩:=hc;unfold embs at he
  split at he
  ·rename_i ds dp1 s1 h1
   split at he
   ·rename_i hk;simp only[Option.map_eq_some_iff]at he;obtain⟨⟨es',dp2,s2⟩,h2,h3⟩:=he;simp only[Prod.mk.injEq]at h3;obtain⟨rfl,rfl,rfl⟩:=h3;obtain⟨hcell,hlen⟩:=emb_cell h1;obtain⟨hcv,_,_⟩:=hv.cells hcell;obtain⟨γ1,G1,i1,r1,e1⟩:=emb_rel _ hi hcv h1;obtain⟨γ2,G2,i2,r2,e2,l2,k2,f2,z2⟩:=embs_rel cs i1 (hvs.mono (γ':=γ1) e1.h (fun _ _ _=>rfl) e1.β e1.sl cs) h2;have hsz:v.cells.size=k:=by rw[← Array.length_toList,hcv.length,← hlen];exact hk.1
    have up:∀g,Lim γ1 w g→Lim γ2 w g:=fun g hg=>by
     obtain⟨u1,u2⟩:=e2.lim g hg.1;exact⟨u1,u2.trans hg.2.1,hg.2.2⟩
    refine⟨γ2,G1++G2,i2,?_,⟨e2.β.trans e1.β,e2.sl.trans e1.sl,fun g=>Nat.le_trans (e1.h g) (e2.h g),fun be hb=>?_,fun hd=>?_,fun g hg=>?_,fun g=>?_⟩,by simp[l2],?_,?_,?_⟩
    ·simp only[RpE,List.flatMap_cons];exact⟨_,_,G1,G2,rfl,rfl,r1,r2⟩
    ·rcases List.mem_append.1 hb with hb|hb
     ·rcases e1.some_ be hb with h|h
      ·exact .inl (Nat.le_trans h (e2.h _))
      ·exact .inr (up _ h)
     ·exact e2.some_ be hb
    ·rw[Bool.and_eq_true]at hd;obtain⟨n1,l1⟩:=e1.deep hd.1;obtain⟨n2,l2'⟩:=e2.deep hd.2;refine⟨?_,fun be hb=>?_⟩
     ·rw[List.map_append,List.nodup_append];refine⟨n1,n2,?_⟩;intro a ha b hb e;subst e;obtain⟨be1,hb1,rfl⟩:=List.mem_map.1 ha;obtain⟨be2,hb2,e2'⟩:=List.mem_map.1 hb;exact (l2' be2 hb2).2 (by rw[e2'];exact (l1 be1 hb1).1.1)
     ·rcases List.mem_append.1 hb with hb|hb
      ·exact⟨up _ (l1 be hb).1,(l1 be hb).2⟩
      ·refine⟨(l2' be hb).1,fun h=>(l2' be hb).2 ?_⟩;exact (e1.lim _ h).1
    ·obtain⟨u1,u2⟩:=e1.lim g hg;obtain⟨u3,u4⟩:=e2.lim g u1;exact⟨u3,u4.trans u2⟩
    ·rcases e2.own g with h|h
     ·rw[h];exact e1.own g
     ·exact .inr h
    ·intro e he;rcases List.mem_cons.1 he with rfl|he
     ·exact hk.1
     ·exact k2 e he
    ·intro hf e he;rcases List.mem_cons.1 he with rfl|he
     ·have:=hk.2 hf
      simpa [plains] using this
     ·exact f2 hf e he
    ·intro u hu;rcases List.mem_cons.1 hu with rfl|hu
     ·exact hsz
     ·exact z2 u hu
   ·cases he
  ·cases he
end
end
section
open Go.RowKit
theorem kills_const{b:Nat}:∀{zs:List C},zs.all C.const=true→C.kills b zs=zs
 |[],_=>by simp[C.kills]
 |z::zs,h=>by
  simp only[List.all_cons,Bool.and_eq_true]at h;have ih:=kills_const (b:=b) h.2;have hz:=h.1;cases z<;>simp_all[C.kills,C.kill,C.const]
def okZD:Value→D→Bool
 | .int k n,.int k' n'=>k ==k' && n ==n' && k.wrap n ==n
 | .bool b,.bool b'=>b ==b'
 | .string s,.str s'=>s.data.toList ==s'.data.toList && Nat.ble s.size maxLen
 | .slice none 0 0,.list k _ []=>Nat.blt 0 k
 |_,_=>false
def okZDs:List Value→List D→Bool
 |[],[]=>true
 |v::vs,c::cs=>okZD v c && okZDs vs cs
 |_,_=>false
theorem okZDs_rel{w:World}:∀(vs:List Value) (ds:List D),okZDs vs ds=true→RpC w ds vs []
 |[],[],_=>by simp[RpC]
 |[],_::_,h=>by simp[okZDs]at h
 |_::_,[],h=>by simp[okZDs]at h
 |v::vs,d::ds,h=>by
  simp only[okZDs,Bool.and_eq_true]at h;simp only[RpC];refine⟨v,vs,[],[],rfl,rfl,?_,okZDs_rel vs ds h.2⟩;have ok:=h.1;unfold okZD at ok
  split at ok
  ·simp only[Bool.and_eq_true,beq_iff_eq]at ok;obtain⟨⟨rfl,rfl⟩,hw⟩:=ok;simp[Rp,hw]
  ·simp only[beq_iff_eq]at ok;subst ok;simp[Rp]
  ·simp only[Bool.and_eq_true,beq_iff_eq,Nat.ble_eq]at ok;obtain⟨he,hw⟩:=ok;rw[str_ext he]at hw ⊢;simp[Rp,hw]
  ·simp only[Nat.blt_eq]at ok;simp only[Rp];exact⟨none,0,0,rfl,rfl,Nat.le_refl _,by simp[maxLen],fun _=>flat_nil,ok,fun _ h=>by simp at h,.inl ⟨rfl,trivial⟩⟩
  ·cases ok
section
variable {P:Program} {γ:Gh} {h0:Nat→Nat} {io:List Nat} {w0:World} {s s':St} {f:Fm} {w:World} {N:Nat} {ty:TypeId} {pos:String} {aft:Array Edge} {gd:Option (Nat×Bool)} {K:Fm→World→Prop}
 {cf:Nat→List A→Option (List A×List A)} {mf:Nat→Bool→List D→Int→Option (List D×Int)}
theorem zero_run{T:TypeId}{z:List Value}(h:zeroB P T=some z):∃z0:Value,z0.cells.toList=z∧∀w,(zeroValue T).run P w=.ok z0 w:=by
 unfold zeroB at h;cases hi:P.info? T with
 |none=>rw[hi]at h;simp at h
 |some i=>
  rw[hi]at h;cases hz:i.zero with
  |none=>simp[hz]at h
  |some z0=>
   simp[hz]at h;exact⟨z0,h,fun w=>by simp[zeroValue,typeInfo,hi,hz]⟩
theorem n_alloc(hi:Inv γ h0 io w0 s f w){T:TypeId}{z:List Value}{zs:List C}{b:Nat}(hz:zeroB P T=some z)(hzs:okZs z zs=true)(he:evN cf mf s (some b) (.alloc zs)=some s')
  (h:∀γ' f' w',Inv γ' h0 io w0 s' f' w'→Tr (some b) [b] γ w γ' w' f f'→K f' w'):Op1 P N ⟨some b,.alloc T,ty,pos,aft,gd⟩ f w K:=by
 simp only[evN]at he
 split at he
 ·rename_i hc;simp only[Option.some.injEq]at he;subst he;obtain⟨z0,hz0,hrun⟩:=zero_run hz;have hrun:(execOp (fr f N).eval ⟨some b,.alloc T,ty,pos,aft,gd⟩).run P w=.ok (.value (.pointer (some ⟨w.heap.size,0,none⟩))) (w.alloc (.cells z.toArray T)):=by
   simp[execOp,Instr.alloc,hrun,newVar,newRow,newObj,Sem.run,← hz0]
  refine o_new hrun fun w1 hs hk hB=>?_;have h1:=hi.bel hk;obtain⟨γ',h2,h3,h4,h5,_,_⟩:=h1.addBox (b:=b) hB (.inl (hi.ω_new (Nat.le_refl _))) (.inl hi.size) (hi.hnew _ (Nat.le_refl _)) (okZs_rel z zs hzs);rw[kills_const hc]at h2;refine h γ' _ w1 (h2.put b (.ptr b 0) _ (by simp only[CR,h3])) ⟨adv_bel hi hk _,fun x hx=>h4 x (fun e=>hx (by rw[e])),fun g=>by rw[h5];exact Nat.le_refl _,.put⟩
 ·cases he
theorem n_box(hi:Inv γ h0 io w0 s f w){T:TypeId}{x:Operand}{y:KX}{b:Nat}(hx:okX N x y=true)(he:evN cf mf s (some b) (.box y)=some s')
  (h:∀γ' f' w',Inv γ' h0 io w0 s' f' w'→Tr (some b) [b] γ w γ' w' f f'→K f' w'):Op1 P N ⟨some b,.box T x,ty,pos,aft,gd⟩ f w K:=by
 simp only[evN]at he
 split at he
 ·rename_i hc;simp only[Option.some.injEq]at he;subst he;obtain⟨hcs,_,_⟩:=(evX_rel hi hx).cells hc;have hrun:(execOp (fr f N).eval ⟨some b,.box T x,ty,pos,aft,gd⟩).run P w=.ok (.value (.pointer (some ⟨w.heap.size,0,none⟩))) (w.alloc (.cells ((fr f N).eval x).cells.toList.toArray T)):=by
   simp[execOp,Instr.box,newVar,newRow,newObj,Sem.run]
  refine o_new hrun fun w1 hs hk hB=>?_;have h1:=hi.bel hk;have hcs1:CRs γ w1 (evX s y).cells ((fr f N).eval x).cells.toList:=hcs.mono (γ':=γ) (fun _=>Nat.le_refl _) (adv_bel hi hk (fun _=>False)).cell rfl rfl _;obtain⟨γ',h2,h3,h4,h5,_,_⟩:=h1.addBox (b:=b) hB (.inl (hi.ω_new (Nat.le_refl _))) (.inl hi.size) (hi.hnew _ (Nat.le_refl _)) hcs1;refine h γ' _ w1 (h2.put b (.ptr b 0) _ (by simp only[CR,h3])) ⟨adv_bel hi hk _,fun x hx=>h4 x (fun e=>hx (by rw[e])),fun g=>by rw[h5];exact Nat.le_refl _,.put⟩
 ·cases he
theorem RpE.bel{w w1:World}{es:List (List D)}{vs:List Value}{G:Fp}(h:RpE w es vs G)(hk:Bel w.heap.size w w1):RpE w1 es vs G:=
 h.keep es fun be hb j _=>World.cell?_of_block (w:=w) (hk.block _ (RpE.lt es h be hb))
theorem Inv.newRow(hi:Inv γ h0 io w0 s f w){γ0:Gh}{w1:World}(hk:Bel w.heap.size w w1){T:TypeId}{us:List Value}(hB:Blk w1 w.heap.size T us){es:List (List D)}{xs:List Value}{k:Nat}{fl dp:Bool}{G:Fp}{n c:Nat}(hs:w1.heap.size=w.heap.size+1)
  (hr:RpE w es xs G) (hx:us.take (n * k)=xs) (hn:n=es.length) (hnc:n≤c) (hc:c≤maxLen) (hl:us.length=c * k) (hk0:0 < k) (hek:∀e∈es,e.length=k) (hfl:fl=true→flat es) (he:Emb γ0 w dp G γ) (r:Nat) :
  ∃γ',Inv γ' h0 io w0 (s.newRow r ⟨es,k,fl,dp,true,false⟩) f w1∧γ'.sl r=.slice (some ⟨w.heap.size,0,none⟩) n c∧γ'.β=γ.β∧(∀g,γ.h g≤γ'.h g):=by
 have hlx:Lies w1 w.heap.size 0 xs:=by
  intro j u hu;rw[Nat.zero_add,hB.cell];rw[← hx,List.getElem?_take]at hu
  split at hu
  ·exact hu
  ·cases hu
 cases dp with
 |true=>
  obtain⟨hnd,hlim⟩:=he.deep rfl;have h1:=hi.bel hk;have hR:RowR γ.h w1 ⟨es,k,fl,true,true,false⟩ (.slice (some ⟨w.heap.size,0,none⟩) n c) (w.heap.size::G.map Prod.fst):=by
   refine⟨_,n,c,rfl,hn,hnc,hc,hk0,hek,hfl,.inr ⟨w.heap.size,0,xs,G,rfl,by omega,⟨by omega,hk.thaw _ (Nat.le_refl _)⟩,hr.bel hk,hlx,by rw[hi.hnew _ (Nat.le_refl _)];omega,fun _=>hi.hnew _ (Nat.le_refl _),fun _=>⟨rfl,T,us,hB,hl⟩,fun _=>⟨rfl,fun be hb=>⟨(hlim be hb).1.2.1,(adv_bel hi hk (fun _=>False)).kthaw _ (hlim be hb).1.2.2⟩⟩,fun h=>by cases h⟩⟩
  have hlt:=RpE.lt es hr;obtain⟨γ',h2,h3,h4,h5,_⟩:=h1.addRow (r:=r) hR (List.nodup_cons.2 ⟨fun hm=>by
    obtain⟨be,hb,e⟩:=List.mem_map.1 hm;have:=hlt be hb;omega,hnd⟩) (fun g hg=>by
    rcases List.mem_cons.1 hg with rfl|hg
    ·exact⟨.inl (hi.ω_new (Nat.le_refl _)),by omega,.inl hi.size⟩
    ·obtain⟨be,hb,rfl⟩:=List.mem_map.1 hg;have hl:=(hlim be hb).1.1;exact⟨.inr (.inl hl),by have:=hlt be hb;omega,(hi.own _ (by rw[hl];simp)).2⟩)
  exact⟨γ',h2,h3,h4,fun g=>by rw[h5];exact Nat.le_refl _⟩
 |false=>
  obtain⟨γ2,i2,b2,s2,m2,set2,fr2,k2⟩:=hi.settleG G he.some_;have h1:=i2.bel hk;have hR:RowR γ2.h w1 ⟨es,k,fl,false,true,false⟩ (.slice (some ⟨w.heap.size,0,none⟩) n c) [w.heap.size]:=by
   refine⟨_,n,c,rfl,hn,hnc,hc,hk0,hek,hfl,.inr ⟨w.heap.size,0,xs,G,rfl,by omega,⟨by omega,hk.thaw _ (Nat.le_refl _)⟩,hr.bel hk,hlx,by rw[i2.hnew _ (Nat.le_refl _)];omega,fun _=>i2.hnew _ (Nat.le_refl _),fun _=>⟨rfl,T,us,hB,hl⟩,(fun h=>by cases h),fun _=>⟨rfl,set2⟩⟩⟩
  obtain⟨γ',h2,h3,h4,h5,_⟩:=h1.addRow (r:=r) hR (by simp) (fun g hg=>by
    simp only[List.mem_singleton]at hg;subst hg;exact⟨.inl (i2.ω_new (Nat.le_refl _)),by omega,.inl hi.size⟩)
  exact⟨γ',h2,h3,h4.trans b2,fun g=>by rw[h5];exact m2 g⟩
def okSeq(N:Nat):Nat→List (Nat×Operand)→List KX→Bool
 |_,[],[]=>true
 |j,(i,x)::ps,y::ys=>i ==j && okX N x y && okSeq N (j+1) ps ys
 |_,_,_=>false
theorem okSeq_rel(hi:Inv γ h0 io w0 s f w):∀(j:Nat) (ps:List (Nat×Operand)) (ys:List KX),okSeq N j ps ys=true→
  CRs γ w (ys.map (evX s)) (ps.map fun p=>(fr f N).eval p.2)∧ps.map Prod.fst=List.range' j ps.length∧ps.length=ys.length
 |_,[],[],_=>by simp[CRs]
 |_,[],_::_,h=>by simp[okSeq]at h
 |_,_::_,[],h=>by simp[okSeq]at h
 |j,(i,x)::ps,y::ys,h=>by
  simp only[okSeq,Bool.and_eq_true,beq_iff_eq]at h;obtain⟨⟨rfl,h2⟩,h3⟩:=h;obtain⟨h4,h5,h6⟩:=okSeq_rel hi (i+1) ps ys h3;refine⟨?_,by simp[List.range',h5],by simp[h6]⟩;simp only[List.map_cons,CRs];exact⟨_,_,rfl,evX_rel hi h2,h4⟩
theorem fill_seq{k:Nat}:∀(vs:List (Nat×Value)) (j:Nat) (pre A:List Value),pre.length=j * k→vs.map Prod.fst=List.range' j vs.length→(∀v∈vs,v.2.cells.size=k)→A.length=vs.length * k→
  Instr.fill (fun i=>some (i * k,k)) (pre++A).toArray vs=some (pre++vs.flatMap fun v=>v.2.cells.toList).toArray
 |[],j,pre,A,_,_,_,hA=>by
  have:A=[]:=List.eq_nil_of_length_eq_zero (by simpa using hA);simp[Instr.fill,this]
 |(i,v)::vs,j,pre,A,hp,hf,hs,hA=>by
  simp only[List.map_cons,List.length_cons,List.range',List.cons.injEq]at hf;obtain⟨rfl,hf⟩:=hf;have hv:=hs (i,v) (by simp);simp only at hv
  simp only[List.length_cons,Nat.succ_mul]at hA;simp only[Instr.fill,List.size_toArray,List.length_append,hp,hA,hv];rw[if_neg (by simp)];have e:v.cells.zipIdx.foldl (fun cs (c,j)=>cs.setIfInBounds (i * k+j) c) (pre++A).toArray=((pre++v.cells.toList)++A.drop k).toArray:=by
   have h1:=put_at' (i * k) v.cells.toList (pre++A).toArray (by simp[hp,hA,hv]);simp only[Array.toArray_toList]at h1;rw[h1]
   congr 1
   have t1:(pre++A).take (i * k)=pre:=by rw[← hp];exact List.take_left
   have t2:(pre++A).drop (i * k+k)=A.drop k:=by
    rw[List.drop_append,List.drop_of_length_le (by omega),hp,Nat.add_sub_cancel_left,List.nil_append]
   unfold splice;simp only[Array.length_toList,hv,t1,t2]
  rw[e];have ih:=fill_seq vs (i+1) (pre++v.cells.toList) (A.drop k) (by simp[hp,hv,Nat.succ_mul]) hf (fun u hu=>hs u (by simp[hu])) (by simp[hA]);rw[ih];simp
theorem n_mkrow(hi:Inv γ h0 io w0 s f w){T E:TypeId}{n k:Nat}{fl:Bool}{ps:Array (Nat×Operand)}{ys:List KX}{r:Nat}(hU:P.underlying T=some (.slice E))(hS:sizeB P E=some k)(hz:n=0∨(zeroB P E).isSome=true)(hps:okSeq N 0 ps.toList ys=true)(hn:n=ps.size)(hm:Nat.ble (n * k) 16777216=true)
  (he:evN cf mf s (some r) (.mkrow k fl ys)=some s') (h:∀γ' f' w',Inv γ' h0 io w0 s' f' w'→Tr (some r) (r::rowsAll (ys.map (evX s))) γ w γ' w' f f'→K f' w'):Op1 P N ⟨some r,.buildSlice T n ps,ty,pos,aft,gd⟩ f w K:=by
 simp only[evN]at he
 split at he
 ·rename_i es dp s1 hem
  split at he
  ·rename_i hk0;simp only[Option.some.injEq]at he;subst he;obtain⟨hcr,hidx,hlen⟩:=okSeq_rel hi 0 _ _ hps;obtain⟨γ1,G,i1,r1,e1,l1,k1,f1,z1⟩:=embs_rel _ hi hcr hem;have hsz:(ps.toList.map fun p=>(fr f N).eval p.2).flatMap (fun v=>v.cells.toList)=(ps.toList.map fun p=>(p.1,(fr f N).eval p.2)).flatMap fun v=>v.2.cells.toList:=by
    simp[List.flatMap_map]
   have hnl:n=es.length:=by rw[l1,List.length_map,← hlen,hn,Array.length_toList]
   have hxl:((ps.toList.map fun p=>(fr f N).eval p.2).flatMap fun v=>v.cells.toList).length=n * k:=by rw[RpE.length es r1 k1,hnl]
   have hm':n * k≤16777216:=by simpa using hm
   have hrun:(execOp (fr f N).eval ⟨some r,.buildSlice T n ps,ty,pos,aft,gd⟩).run P w=.ok (.value (.slice (some ⟨w.heap.size,0,none⟩) n n)) (w.alloc (.cells ((ps.toList.map fun p=>(fr f N).eval p.2).flatMap fun v=>v.cells.toList).toArray E)):=by
    have h24:¬(n * k > 2 ^ 24):=by omega
    have hfill:∀A:Array Value,A.size=n * k→Instr.fill (fun i=>some (i * k,k)) A (ps.toList.map fun p=>(p.1,(fr f N).eval p.2))=some ((ps.toList.map fun p=>(fr f N).eval p.2).flatMap fun v=>v.cells.toList).toArray:=by
     intro A hA;have h1:=fill_seq (k:=k) (ps.toList.map fun p=>(p.1,(fr f N).eval p.2)) 0 [] A.toList (by simp) (by rw[List.map_map,List.length_map];exact hidx) (by
      intro v hv;obtain⟨p,hp,rfl⟩:=List.mem_map.1 hv;exact z1 _ (List.mem_map_of_mem hp)) (by simp[hA,hn])
     rw[hsz]
     simpa using h1
    have hf2:=fun zc:Array Value=>hfill ((Array.range (n * k)).map (zc[· % zc.size]!)) (by simp);by_cases hn0:n * k=0
    ·have h3:=hf2 #[];simp only[execOp,Instr.buildSlice,Sem.run_bind,run_underlying hU,Result.andThen_ok,run_sizeOf hS,if_neg h24,if_pos hn0,Sem.run_pure];simp only[Array.toList_map]at h3 ⊢;rw[h3];simp[newRow,newObj,Sem.run]
    ·have hzz:(zeroB P E).isSome=true:=by
      rcases hz with hz|hz
      ·subst hz;simp at hn0
      ·exact hz
     obtain⟨zl,hzl⟩:=Option.isSome_iff_exists.1 hzz;obtain⟨z0,_,hzr⟩:=zero_run hzl;have h3:=hf2 z0.cells;simp only[execOp,Instr.buildSlice,Sem.run_bind,run_underlying hU,Result.andThen_ok,run_sizeOf hS,if_neg h24,if_neg hn0,hzr,Sem.run_pure];simp only[Array.toList_map]at h3 ⊢;rw[h3];simp[newRow,newObj,Sem.run]
   refine o_new hrun fun w1 hs hk hB=>?_;obtain⟨γ',h2,h3,h4,h5⟩:=i1.newRow hk hB (n:=n) (c:=n) hs r1 (by rw[← hxl,List.take_length]) hnl (Nat.le_refl _) (by simp[maxLen];have:n≤n * k:=Nat.le_mul_of_pos_right n hk0;omega) hxl hk0 k1 f1 e1 r;refine h γ' _ w1 (h2.put r (.ref r) _ (by simp only[CR,h3];exact⟨trivial,_,_,_,rfl⟩)) ⟨adv_bel hi hk _,fun x _=>by rw[h4,e1.β],fun g=>Nat.le_trans (e1.h g) (h5 g),.put⟩
  ·cases he
 ·cases he
end
end
section
open Go.RowKit
section
variable {γ:Gh} {h0:Nat→Nat} {io:List Nat} {w0:World} {s s':St} {f:Fm} {w:World}
theorem Inv.openRow(hi:Inv γ h0 io w0 s f w){r:Nat}{x:Row}(hl:look s.rw r=some x) :
  ∃γ' A n c,Inv γ' h0 io w0 (s.dropRow r) f w∧γ'.β=γ.β∧γ'.sl=γ.sl∧γ'.h=γ.h∧(∀g,γ.ω g≠.row r→γ'.ω g=γ.ω g)∧(∀g,γ.ω g=.row r→γ'.ω g=.lim)∧
   γ.sl r=.slice A n c∧n=x.es.length∧n≤c∧c≤maxLen∧0 < x.k∧(∀e∈x.es,e.length=x.k)∧(x.fl=true→flat x.es)∧
   ((A=none∧c=0)∨∃g o xs G,A=some ⟨g,o,none⟩∧g < w.heap.size∧γ.ω g=.row r∧γ'.ω g=.lim∧Thaw w g∧RpE w x.es xs G∧Lies w g o xs∧γ.h g≤o+n * x.k∧(x.fz=false→γ.h g=0)∧
    (x.app=true→o=0∧∃T vs,Blk w g T vs∧vs.length=c * x.k)∧(∀be∈G,be.2≤γ.h be.1∨(Lim γ' w be.1∧be.1≠g))∧(x.deep=true→(g::G.map Prod.fst).Nodup∧∀be∈G,Lim γ' w be.1∧γ.ω be.1=.row r)):=by
 obtain⟨F,hR,hnd,hω⟩:=hi.rw r x hl;obtain⟨A,n,c,q1,q2,q3,q4,q5,q6,q7,q8⟩:=hR;have hdr:=hi.dropRow r;have nolive:∀g,γ.ω g=.row r→(∀b cs,look (s.dropRow r).bx b=some cs→γ.ω g≠.box b)∧∀q y,look (s.dropRow r).rw q=some y→γ.ω g≠.row q:=by
  intro g hg;refine⟨fun b cs _=>by rw[hg];simp,fun q y hq=>?_⟩;rw[hg];simp only[St.dropRow,look_drp]at hq
  split at hq
  ·cases hq
  ·rename_i hne;intro e;cases e;exact hne rfl
 have hs:=hdr.settle (h':=γ.h) (ω':=fun y=>if γ.ω y=.row r then .lim else γ.ω y) (fun _=>Nat.le_refl _) (fun g hg=>absurd rfl hg)
  (fun y=>by
   by_cases hy:γ.ω y=.row r
   ·exact .inr ⟨.inr (by simp[hy]),by rw[hy];simp,nolive y hy⟩
   ·exact .inl (by simp[hy]))
  (fun y b hy=>by
   by_cases hy':γ.ω y=.row r
   ·simp[hy']at hy
   ·simp only[if_neg hy']at hy;exact hi.hbox y b hy)
 refine⟨_,A,n,c,hs,rfl,rfl,rfl,fun g hg=>by simp[hg],fun g hg=>by simp[hg],q1,q2,q3,q4,q5,q6,q7,?_⟩;rcases q8 with ⟨rfl,rfl,rfl⟩|⟨g,o,xs,G,rfl,a2,a3,a4,a5,a6,a7,a8,a9,a10⟩
 ·exact .inl ⟨rfl,rfl⟩
 ·have hgω:γ.ω g=.row r:=by
   cases hd:x.deep with
   |true=>exact hω g (by rw[(a9 hd).1];simp)
   |false=>exact hω g (by rw[(a10 hd).1];simp)
  have hlim:x.deep=true→∀be∈G,Lim {γ with h:=γ.h,ω:=fun y=>if γ.ω y=.row r then .lim else γ.ω y } w be.1∧γ.ω be.1=.row r:=fun hd be hb=>by
   have hm:γ.ω be.1=.row r:=hω _ (by rw[(a9 hd).1];simp;exact .inr ⟨be.2,hb⟩);exact⟨⟨by simp[hm],((a9 hd).2 be hb).1,((a9 hd).2 be hb).2⟩,hm⟩
  refine .inr ⟨g,o,xs,G,rfl,a2,hgω,by simp[hgω],a3,a4,a5,a6,a7,a8,fun be hb=>?_,fun hd=>⟨by rw[← (a9 hd).1];exact hnd,hlim hd⟩⟩;cases hd:x.deep with
  |true=>
   refine .inr ⟨(hlim hd be hb).1,fun e=>?_⟩;rw[(a9 hd).1]at hnd;exact (List.nodup_cons.1 hnd).1 (by rw[← e];exact List.mem_map_of_mem hb)
  |false=>exact .inl ((a10 hd).2 be hb)
theorem Inv.closeCore(hi:Inv γ h0 io w0 s f w){r:Nat}{x:Row}{n c g o:Nat}{xs:List Value}{G:Fp}(hn:n=x.es.length)(hnc:n≤c)(hc:c≤maxLen)(hk0:0 < x.k)(hek:∀e∈x.es,e.length=x.k)(hfl:x.fl=true→flat x.es)
  (hg:g < w.heap.size) (hω:γ.ω g=.lim∨γ.ω g=.free) (hio:w0.heap.size≤g∨g∈io) (hth:Thaw w g) (hr:RpE w x.es xs G) (hl:Lies w g o xs) (hh:γ.h g≤o+n * x.k) (hfz:x.fz=false→γ.h g=0) (happ:x.app=true→o=0∧∃T vs,Blk w g T vs∧vs.length=c * x.k)
  (hsome:∀be∈G,be.2≤γ.h be.1∨(Lim γ w be.1∧be.1≠g)) (hdeep:x.deep=true→(g::G.map Prod.fst).Nodup∧∀be∈G,Lim γ w be.1) :
  ∃γ' F,Inv γ' h0 io w0 s f w∧γ'.β=γ.β∧γ'.sl=γ.sl∧(∀y,γ.h y≤γ'.h y)∧RowR γ'.h w x (.slice (some ⟨g,o,none⟩) n c) F∧F.Nodup∧(∀y∈F,(γ'.ω y=.free∨γ'.ω y=.lim∨γ'.ω y=.row r)∧y < w.heap.size∧(w0.heap.size≤y∨y∈io))∧(x.deep=false→Settled γ'.h G)∧(∀y,γ'.ω y=γ.ω y∨γ'.ω y=.free):=by
 cases hd:x.deep with
 |true=>
  obtain⟨hnd,hlim⟩:=hdeep hd;have hR:RowR γ.h w x (.slice (some ⟨g,o,none⟩) n c) (g::G.map Prod.fst):=by
   refine⟨_,n,c,rfl,hn,hnc,hc,hk0,hek,hfl,.inr ⟨g,o,xs,G,rfl,hg,hth,hr,hl,hh,hfz,happ,fun _=>⟨rfl,fun be hb=>(hlim be hb).2⟩,fun h=>by rw[hd]at h;cases h⟩⟩
  have hlt:=RpE.lt _ hr;exact⟨γ,_,hi,rfl,rfl,fun _=>Nat.le_refl _,hR,hnd,fun y hy=>by
    rcases List.mem_cons.1 hy with rfl|hy
    ·exact⟨by rcases hω with h|h<;>simp[h],hg,hio⟩
    ·obtain⟨be,hb,rfl⟩:=List.mem_map.1 hy;have hl:=(hlim be hb).1;exact⟨.inr (.inl hl),hlt be hb,(hi.own _ (by rw[hl];simp)).2⟩,(fun h=>by cases h),fun _=>.inl rfl⟩
 |false=>
  have mx:∀(l:List Nat) (a b:Nat),(b=a∨b∈l)→b≤l.foldl max a:=by
   intro l
   induction l with
   |nil=>intro a b hb;simp at hb;simp[hb]
   |cons z l ih=>
    intro a b hb;simp only[List.foldl_cons];have h1:=ih (max a z) (max a z) (.inl rfl);rcases hb with rfl|hb
    ·omega
    ·rcases List.mem_cons.1 hb with rfl|hb
     ·omega
     ·exact ih _ _ (.inr hb)
  have hs:=hi.settle (h':=fun y=>if γ.ω y=.lim∧y≠g then γ.h y+(G.map Prod.snd).foldl max 0 else γ.h y) (ω':=fun y=>if γ.ω y=.lim∧y≠g then .free else γ.ω y) (fun y=>by split<;>omega)
   (fun y hy=>by
    have hl:γ.ω y=.lim:=by
     rcases Decidable.em (γ.ω y=.lim∧y≠g) with h|h
     ·exact h.1
     ·exact absurd (by rw[if_neg h]) hy
    have ho:=hi.own y (by rw[hl];simp);exact⟨ho.1,ho.2,fun _ _ _=>by rw[hl];simp,fun _ _ _=>by rw[hl];simp⟩)
   (fun y=>by
    by_cases hl:γ.ω y=.lim∧y≠g
    ·exact .inr ⟨.inl (by rw[if_pos hl]),by rw[hl.1];simp,fun _ _ _=>by rw[hl.1];simp,fun _ _ _=>by rw[hl.1];simp⟩
    ·exact .inl (by rw[if_neg hl]))
   (fun y b hy=>by
    by_cases hl:γ.ω y=.lim∧y≠g
    ·rw[if_pos hl]at hy;cases hy
    ·rw[if_neg hl]at hy ⊢;exact hi.hbox y b hy)
  have hset:Settled (fun y=>if γ.ω y=.lim∧y≠g then γ.h y+(G.map Prod.snd).foldl max 0 else γ.h y) G:=by
   intro be hb;have hle:=mx (G.map Prod.snd) 0 be.2 (.inr (List.mem_map_of_mem hb));dsimp only;split
   ·omega
   ·rename_i hl;rcases hsome be hb with h|h
    ·exact h
    ·exact absurd ⟨h.1.1,h.2⟩ hl
  have hgg:(fun y=>if γ.ω y=.lim∧y≠g then γ.h y+(G.map Prod.snd).foldl max 0 else γ.h y) g=γ.h g:=by simp
  have hR:RowR (fun y=>if γ.ω y=.lim∧y≠g then γ.h y+(G.map Prod.snd).foldl max 0 else γ.h y) w x (.slice (some ⟨g,o,none⟩) n c) [g]:=by
   refine⟨_,n,c,rfl,hn,hnc,hc,hk0,hek,hfl,.inr ⟨g,o,xs,G,rfl,hg,hth,hr,hl,by rw[hgg];exact hh,fun h=>by rw[hgg];exact hfz h,happ,(fun h=>by rw[hd]at h;cases h),fun _=>⟨rfl,hset⟩⟩⟩
  exact⟨_,[g],hs,rfl,rfl,fun y=>by dsimp only;split<;>omega,hR,by simp,fun y hy=>by
    simp only[List.mem_singleton]at hy;subst hy;refine⟨?_,hg,hio⟩;rcases hω with h|h<;>simp[h],fun _=>hset,fun y=>by dsimp only;split<;>simp⟩
theorem Inv.closeRow(hi:Inv γ h0 io w0 s f w){r:Nat}{x:Row}{n c g o:Nat}{xs:List Value}{G:Fp}(hn:n=x.es.length)(hnc:n≤c)(hc:c≤maxLen)(hk0:0 < x.k)(hek:∀e∈x.es,e.length=x.k)(hfl:x.fl=true→flat x.es)
  (hg:g < w.heap.size) (hω:γ.ω g=.lim∨γ.ω g=.free) (hio:w0.heap.size≤g∨g∈io) (hth:Thaw w g) (hr:RpE w x.es xs G) (hl:Lies w g o xs) (hh:γ.h g≤o+n * x.k) (hfz:x.fz=false→γ.h g=0) (happ:x.app=true→o=0∧∃T vs,Blk w g T vs∧vs.length=c * x.k)
  (hsome:∀be∈G,be.2≤γ.h be.1∨(Lim γ w be.1∧be.1≠g)) (hdeep:x.deep=true→(g::G.map Prod.fst).Nodup∧∀be∈G,Lim γ w be.1) :
  ∃γ',Inv γ' h0 io w0 (s.newRow r x) f w∧γ'.sl r=.slice (some ⟨g,o,none⟩) n c∧γ'.β=γ.β∧(∀y,γ.h y≤γ'.h y)∧∀q,q≠r→γ'.sl q=γ.sl q:=by
 obtain⟨γ1,F,i1,b1,s1,m1,hR,hnd,hF,hsG,hwG⟩:=hi.closeCore (r:=r) hn hnc hc hk0 hek hfl hg hω hio hth hr hl hh hfz happ hsome hdeep;obtain⟨γ',h2,h3,h4,h5,_,h6⟩:=i1.addRow (r:=r) hR hnd hF;exact⟨γ',h2,h3,h4.trans b1,fun y=>by rw[h5];exact m1 y,fun q hq=>by rw[h6 q hq,s1]⟩
theorem Inv.closeSame(hi:Inv γ h0 io w0 s f w){r:Nat}{x:Row}{n c g o:Nat}{xs:List Value}{G:Fp}(hn:n=x.es.length)(hnc:n≤c)(hc:c≤maxLen)(hk0:0 < x.k)(hek:∀e∈x.es,e.length=x.k)(hfl:x.fl=true→flat x.es)
  (hg:g < w.heap.size) (hω:γ.ω g=.lim∨γ.ω g=.free) (hio:w0.heap.size≤g∨g∈io) (hth:Thaw w g) (hr:RpE w x.es xs G) (hl:Lies w g o xs) (hh:γ.h g≤o+n * x.k) (hfz:x.fz=false→γ.h g=0) (happ:x.app=true→o=0∧∃T vs,Blk w g T vs∧vs.length=c * x.k)
  (hsome:∀be∈G,be.2≤γ.h be.1∨(Lim γ w be.1∧be.1≠g)) (hdeep:x.deep=true→(g::G.map Prod.fst).Nodup∧∀be∈G,Lim γ w be.1) (hsl:γ.sl r=.slice (some ⟨g,o,none⟩) n c) :
  ∃γ',Inv γ' h0 io w0 (s.setRow r x) f w∧γ'.sl=γ.sl∧γ'.β=γ.β∧(∀y,γ.h y≤γ'.h y)∧(x.deep=false→Settled γ'.h G)∧(∀y,γ'.ω y=γ.ω y∨γ'.ω y=.free∨γ'.ω y=.row r):=by
 obtain⟨γ1,F,i1,b1,s1,m1,hR,hnd,hF,hsG,hwG⟩:=hi.closeCore (r:=r) hn hnc hc hk0 hek hfl hg hω hio hth hr hl hh hfz happ hsome hdeep;rw[← hsl,← s1]at hR;obtain⟨γ',h2,h3,h4,h5,h6⟩:=i1.setRow (r:=r) hR hnd hF;exact⟨γ',h2,h3.trans s1,h4.trans b1,fun y=>by rw[h5];exact m1 y,fun hd=>by rw[h5];exact hsG hd,fun y=>by
  rcases h6 y with h|h
  ·rw[h];rcases hwG y with h'|h'
   ·exact .inl h'
   ·exact .inr (.inl h')
  ·exact .inr (.inr h)⟩
theorem adv_off(hi:Inv γ h0 io w0 s f w){g:Nat}{w1:World}{M:Own→Prop}(ho:Off g w w1)(hM:M (γ.ω g))(hc:∀j,j < γ.h g→w1.cell? ⟨g,j,none⟩=w.cell? ⟨g,j,none⟩):Adv γ M w w1 where
 os:=ho.os
 tape:=ho.tape
 output:=ho.output
 size:=by rw[ho.size];exact Nat.le_refl _
 block y hy hn:=ho.block y (fun e=>hn (e▸hM))
 cell y j hj:=by
  by_cases e:y=g
  ·subst e;exact hc j hj
  ·exact World.cell?_of_block (w:=w) (ho.block y e)
 kthaw y hy:=⟨by rw[ho.size];exact hy.1,fun j=>by
  by_cases e:y=g
  ·subst e;exact ho.fz j
  ·rw[World.frozen?_of_block (w:=w) (ho.block y e)];exact hy.2 j⟩
end
theorem splice_mid(p m q u:List Value)(h:u.length=m.length):splice (p++(m++q)) p.length u=p++u++q:=by
 unfold splice;rw[List.take_left,List.drop_append,List.drop_of_length_le (by omega),Nat.add_sub_cancel_left,List.nil_append,List.drop_append,List.drop_of_length_le (by omega),h,Nat.sub_self];simp
theorem splice_len{cs vs:List Value}{i:Nat}(h:i+vs.length≤cs.length):(splice cs i vs).length=cs.length:=by
 unfold splice;simp
 omega
theorem nodup_swap{g:Nat}{Ga Gp Gm Gs Gc G1:Fp}(h:(g::(Ga++((Gp++(Gm++Gs))++Gc)).map Prod.fst).Nodup)(h1:(G1.map Prod.fst).Nodup)(hd:∀y∈(Ga++((Gp++(Gm++Gs))++Gc)).map Prod.fst,y∉G1.map Prod.fst)(hg:g∉G1.map Prod.fst) :
  (g::(Ga++((Gp++G1++Gs)++Gc)).map Prod.fst).Nodup:=by
 simp only[List.map_append,List.nodup_cons,List.mem_append,List.nodup_append,not_or]at *
 grind
section
variable {P:Program} {γ:Gh} {h0:Nat→Nat} {io:List Nat} {w0:World} {s s':St} {f:Fm} {w:World} {N:Nat} {ty:TypeId} {pos:String} {aft:Array Edge} {gd:Option (Nat×Bool)} {K:Fm→World→Prop}
 {cf:Nat→List A→Option (List A×List A)} {mf:Nat→Bool→List D→Int→Option (List D×Int)}
theorem made_flat{z:Array Value}{k:Nat}(hz:z.size=k)(hk:0 < k):∀m:Nat,(madeCells z (m * k)).toList=(List.replicate m z.toList).flatten
 |0=>by simp[madeCells]
 |m+1=>by
  rw[List.replicate_succ,List.flatten_cons,← made_flat hz hk m]
  apply List.ext_getElem?
  intro i;have g1:∀n j,(madeCells z n).toList[j]?=if j < n then some z[j % z.size]! else none:=by
   intro n j;simp only[madeCells,Array.toList_map,Array.toList_range,List.getElem?_map];split
   ·rename_i h;simp[h]
   ·rename_i h;simp[h]
  rw[g1,List.getElem?_append,g1];simp only[Array.length_toList,hz,Nat.succ_mul];by_cases h1:i < k
  ·rw[if_pos (by omega),if_pos h1,Nat.mod_eq_of_lt h1];simp[hz,h1]
  ·rw[if_neg h1];by_cases h2:i < m * k+k
   ·rw[if_pos h2,if_pos (by omega)]
    congr 2
    rw[Nat.mod_eq_sub_mod (by omega)]
   ·rw[if_neg h2,if_neg (by omega)]
theorem rep_rep{w:World}{zs:List D}{vs:List Value}(h:RpC w zs vs []):∀m:Nat,RpE w (List.replicate m zs) (List.replicate m vs).flatten []
 |0=>by simp[RpE]
 |m+1=>by
  rw[List.replicate_succ,List.replicate_succ,List.flatten_cons];simp only[RpE];exact⟨vs,_,[],[],rfl,rfl,h,rep_rep h m⟩
theorem n_make(hi:Inv γ h0 io w0 s f w){T E:TypeId}{k by_:Nat}{fl:Bool}{zs:List D}{x x':Operand}{y:KX}{r:Nat}{i:TypeInfo}{z:Value}(hU:P.underlying T=some (.slice E))(hI:P.info? E=some i)(hz:i.zero=some z)(hsz:i.size=k)(hby:i.bytes=by_)(hk0:0 < k)(hzd:okZDs z.cells.toList zs=true)(hzl:zs.length=k)(hfl:fl=true→plains zs=true)
  (hx:okX N x y=true) (hx':okX N x' y=true) (he:evN cf mf s (some r) (.make k by_ fl zs y)=some s') (h:∀γ' f' w',Inv γ' h0 io w0 s' f' w'→Tr (some r) [r] γ w γ' w' f f'→K f' w'):Op1 P N ⟨some r,.makeSlice T x x',ty,pos,aft,gd⟩ f w K:=by
 have hv:=evX_rel hi hx;have hv':=evX_rel hi hx';simp only[evN]at he
 split at he
 ·rename_i r' n hr hn;cases hr;rw[hn]at hv hv';obtain⟨hv,_⟩:=cr_int hv;obtain⟨hv',_⟩:=cr_int hv'
  split at he
  ·rename_i hc;obtain⟨c1,c2,c3⟩:=hc;simp only[Option.some.injEq]at he;subst he;have hb1:(i.bytes:Int) * n≤281474976710656:=by
    rw[hby];have c2':n.toNat * by_≤140737488355328:=c2;have:((n.toNat * by_:Nat):Int)≤140737488355328:=Int.ofNat_le.2 c2';rw[Int.natCast_mul,Int.toNat_of_nonneg c1,Int.mul_comm]at this;omega
   have hrun:=run_make (P:=P) w T E i z hU hI hz .i64 .i64 n n c1 (Int.le_refl _) hb1 (by omega);have hrpc:RpC w zs z.cells.toList []:=okZDs_rel _ _ hzd;have hzc:z.cells.size=k:=by rw[← Array.length_toList,RpC.length _ hrpc,hzl]
   have hmf:=made_flat hzc hk0 n.toNat;have hrun2:(execOp (fr f N).eval ⟨some r,.makeSlice T x x',ty,pos,aft,gd⟩).run P w=.ok (.value (.slice (some ⟨w.heap.size,0,none⟩) n.toNat n.toNat)) (w.alloc (.cells (List.replicate n.toNat z.cells.toList).flatten.toArray E)):=by
    rw[hsz]at hrun;rw[← hmf];simp[execOp,hv,hv',hrun]
   have hrep:=rep_rep hrpc n.toNat;have hek:∀e∈List.replicate n.toNat zs,e.length=k:=fun e he=>by rw[(List.mem_replicate.1 he).2];exact hzl
   have hlen:((List.replicate n.toNat z.cells.toList).flatten).length=n.toNat * k:=by rw[RpE.length _ hrep hek];simp
   refine o_new hrun2 fun w1 hs hk hB=>?_;obtain⟨γ',h2,h3,h4,h5⟩:=hi.newRow (γ0:=γ) (dp:=true) hk hB (n:=n.toNat) (c:=n.toNat) hs hrep (by rw[← hlen,List.take_length]) (by simp) (Nat.le_refl _) (by simp[maxLen];omega) hlen hk0 hek (fun hf e he x hx=>by
     have h1:=hfl hf;rw[(List.mem_replicate.1 he).2]at hx;simp only[plains,List.all_eq_true]at h1;exact h1 x hx) ⟨rfl,rfl,fun _=>Nat.le_refl _,fun _ h=>by simp at h,fun _=>by simp,fun _ h=>⟨h,rfl⟩,fun _=>.inl rfl⟩ r
   exact h γ' _ w1 (h2.put r (.ref r) _ (by simp only[CR,h3];exact⟨trivial,_,_,_,rfl⟩)) ⟨adv_bel hi hk _,fun x _=>by rw[h4],fun g=>h5 g,.put⟩
  ·cases he
 ·cases he
theorem n_st(hi:Inv γ h0 io w0 s f w){T:TypeId}{x v:Operand}{a b:KX}{n:Nat}(hS:sizeB P T=some n)(hx:okX N x a=true)(hv:okX N v b=true)(he:evN cf mf s none (.st n a b)=some s')
  (h:∀γ' f' w',Inv γ' h0 io w0 s' f' w'→Tr none (touch s none (.st n a b)) γ w γ' w' f f'→K f' w'):Op1 P N ⟨none,.store T x v,ty,pos,aft,gd⟩ f w K:=by
 have hpx:=evX_rel hi hx;have hpv:=evX_rel hi hv;have fin:∀(g o:Nat) (T':TypeId) (cs:List Value),(fr f N).eval x=.pointer (some ⟨g,o,none⟩)→Blk w g T' cs→((fr f N).eval v).cells.toList.length=n→o+n≤cs.length→(∀u∈((fr f N).eval v).cells.toList,one u=true)→
   (execOp (fr f N).eval ⟨none,.store T x v,ty,pos,aft,gd⟩).run P w=.ok .skip (setB w g (.cells (splice cs o ((fr f N).eval v).cells.toList).toArray T' (0,0))):=by
  intro g o T' cs hp hB hl ho h1;have hst:=run_storeCells (P:=P) (o:=o) ((fr f N).eval v).cells.toList 0 w cs hB (by omega) h1;simp only[Nat.add_zero]at hst;have hsz:((fr f N).eval v).cells.size=n:=by rw[← Array.length_toList];exact hl
  simp[execOp,Instr.storeAt,hp,Instr.sureAddr,storeVar,run_sizeOf hS,hsz,hst]
 have ones:∀{cs:List C} {vs:List Value},CRs γ w cs vs→cs.all C.cell=true→∀u∈vs,one u=true:=by
  intro cs
  induction cs with
  |nil=>intro vs h _;simp only[CRs]at h;simp[h]
  |cons c cs ih=>
   intro vs h hc;simp only[CRs]at h;obtain⟨v,vs',rfl,h2,h3⟩:=h;simp only[List.all_cons,Bool.and_eq_true]at hc;intro u hu;rcases List.mem_cons.1 hu with rfl|hu
   ·cases c with
    |d x=>simp only[CR]at h2;obtain⟨F,h4,_⟩:=h2;exact h4.isOne
    |nil k fl=>simp only[CR]at h2;rw[h2.1];rfl
    |ref r=>simp only[CR]at h2;obtain⟨_,A,n,c,rfl⟩:=h2;rfl
    |_=>simp[C.cell]at hc
   ·exact ih h3 hc.2 u hu
 simp only[evN]at he
 split at he
 ·rename_i b' o hb;rw[hb]at hpx;simp only[CR]at hpx
  split at he
  ·rename_i cs hl
   split at he
   ·rename_i hc;obtain⟨c1,c2,c3⟩:=hc;simp only[Option.some.injEq]at he;subst he;obtain⟨T',vs,h1,h2,h3⟩:=hi.bx b' cs hl;obtain⟨hcv,_,_⟩:=hpv.cells c1;have hlen:=hcv.length;refine o_skip (fin _ _ _ _ hpx h1 (by rw[hlen];exact c2) (by rw[h2.length];exact c3) (ones hcv c1)) ?_;have hoff:=Off.setB w (γ.β b') (splice vs o ((fr f N).eval v).cells.toList).toArray T';have hadv:Adv γ (fun o=>∃i∈[b'],o=.box i∨o=.row i) w _:=adv_off hi hoff ⟨b',by simp,.inl h3⟩ (fun j hj=>by rw[hi.hbox _ _ h3]at hj;omega);have hdrop:Inv γ h0 io w0 {s with bx:=drp s.bx b' } f w:=hi.sub (fun _ _ h=>h) (fun d c h=>by
     simp only[look_drp]at h
     split at h
     ·cases h
     ·exact h) (fun _ _ h=>h)
    have h5:=hdrop.adv (adv_off hdrop hoff (M:=fun o=>o=.box b') h3 (fun j hj=>by rw[hi.hbox _ _ h3]at hj;omega)) (by simp) (fun b hb=>by cases hb;simp[look_drp]) (fun r hr=>by cases hr);have hmono:∀{cs:List C} {us:List Value},CRs γ w cs us→CRs γ (setB w (γ.β b') (.cells (splice vs o ((fr f N).eval v).cells.toList).toArray T' (0,0))) cs us:=fun h=>h.mono (γ':=γ) (fun _=>Nat.le_refl _) hadv.cell rfl rfl _;have h6:=h5.setBox (b:=b') (h1.setSame T' _) h3 (hmono (h2.spl o hcv));have e:({s with bx:=drp s.bx b' }:St).setBox b' (splC cs o (evX s b).cells)=s.setBox b' (splC cs o (evX s b).cells):=by
     have:drp (drp s.bx b') b'=drp s.bx b':=by simp[drp,List.filter_filter]
     simp[St.setBox,this]
    rw[e]at h6;refine h γ f _ h6 ⟨?_,fun _ _=>rfl,fun _=>Nat.le_refl _,.skip⟩;simp only[touch,hb];exact hadv
   ·cases he
  ·cases he
 ·rename_i r k i o hb;rw[hb]at hpx;simp only[CR]at hpx;obtain⟨g,p,m,cc,hsl,hp⟩:=hpx
  split at he
  ·rename_i ds dp s1 hem;obtain⟨hcell,hdl⟩:=emb_cell hem;obtain⟨hcv,_,_⟩:=hpv.cells hcell;obtain⟨γ1,G1,i1,r1,e1⟩:=emb_rel _ hi hcv hem
   split at he
   ·rename_i row hl
    split at he
    ·rename_i e hei
     split at he
     ·rename_i hc;obtain⟨rfl,hfz,happ,hdn,hon,hfl,hdd⟩:=hc;simp only[Option.some.injEq]at he;subst he;rw[nth_get]at hei;obtain⟨γ2,A,n',c',i2,b2,sl2,hh2,o2,l2,q1,q2,q3,q4,q5,q6,q7,q8⟩:=i1.openRow hl;rw[e1.sl,hsl]at q1;simp only[Value.slice.injEq]at q1;obtain⟨rfl,rfl,rfl⟩:=q1;rcases q8 with ⟨q8,_⟩|⟨g',p',xs,G,a1,a2,a3,a4,a5,a6,a7,a8,a9,a10,a11,a12⟩
      ·cases q8
      ·simp only[Option.some.injEq,Addr.mk.injEq,and_true]at a1;obtain⟨rfl,rfl⟩:=a1;obtain⟨rfl,T',vs,hB,hvl⟩:=a10 happ;have hg0:γ1.h g=0:=a9 hfz;have hilt:=(List.getElem?_eq_some_iff.1 hei).1;have hel:=q6 e (List.mem_of_getElem? hei);have hul:=hcv.length;have hus:((fr f N).eval v).cells.toList.length=n:=by rw[hul,← hdl];exact hdn
       have hik:i * row.k+row.k≤row.es.length * row.k:=by rw[← Nat.succ_mul];exact Nat.mul_le_mul_right _ hilt
       have hck:row.es.length * row.k≤cc * row.k:=Nat.mul_le_mul_right _ (by omega);refine o_skip (fin _ _ _ _ hp hB hus (by omega) (ones hcv hcell)) ?_;have hoff:=Off.setB w g (splice vs (0+i * row.k+o) ((fr f N).eval v).cells.toList).toArray T';have hγω:γ.ω g=.row r:=by
        rcases e1.own g with h|h|h
        ·rw[← h];exact a3
        ·rw[a3]at h;cases h
        ·rw[a3]at h;cases h
       have hγ0:γ.h g=0:=by have:=e1.h g;omega
       have hadv:Adv γ (fun o=>∃i∈r::rowsOf (evX s b).cells,o=.box i∨o=.row i) w _:=adv_off hi hoff ⟨r,by simp,.inr hγω⟩ (fun j hj=>by rw[hγ0]at hj;omega);have h5:=i2.adv (adv_off i2 hoff (M:=fun o=>o=.lim) a4 (fun j hj=>by rw[hh2,hg0]at hj;omega)) (by simp) (fun b hb=>by cases hb) (fun r hr=>by cases hr);have e0:row.es=row.es.take i++(e::row.es.drop (i+1)):=by
        rw[← (List.getElem?_eq_some_iff.1 hei).2,List.getElem_cons_drop,List.take_append_drop]
       have a6':=a6;rw[e0]at a6';obtain⟨x1,x2,Ga,Gb,ex,eG,ra,rb⟩:=RpE.append_inv _ a6';simp only[RpE]at rb;obtain⟨xe,x3,Ge,Gc,ex2,eG2,re,rc⟩:=rb;subst ex2 eG2;have hl1:x1.length=i * row.k:=by
        rw[RpE.length _ ra (fun x hx=>q6 x (List.mem_of_mem_take hx)),List.length_take,Nat.min_eq_left (by omega)]
       have hle:xe.length=row.k:=by rw[RpC.length _ re];exact hel
       have e2:e=e.take o++((e.drop o).take n++e.drop (o+n)):=by
        rw[← List.drop_drop,List.take_append_drop,List.take_append_drop]
       have re':=re;rw[e2]at re';obtain⟨xa,xr,Gp,Gr,ex3,eG3,rp,rr⟩:=RpC.append_inv _ re';obtain⟨xm,xc,Gm,Gs,ex4,eG4,rm,rs⟩:=RpC.append_inv _ rr;subst ex3 eG3 ex4 eG4;have hla:xa.length=o:=by rw[RpC.length _ rp,List.length_take,hel,Nat.min_eq_left (by omega)]
       have hlm:xm.length=n:=by rw[RpC.length _ rm,List.length_take,List.length_drop,hel,Nat.min_eq_left (by omega)]
       have hnew:RpC w (splC e o ds) (xa++((fr f N).eval v).cells.toList++xc) (Gp++G1++Gs):=by
        unfold splC;rw[hdn];exact RpC.append _ (RpC.append _ rp r1) rs
       have hxl:xs.length≤vs.length:=by rw[RpE.length _ a6 q6,hvl];exact hck
       have hpre:vs=xs++vs.drop xs.length:=by
        have:vs.take xs.length=xs:=by
         apply List.ext_getElem?
         intro j;rw[List.getElem?_take];by_cases hj:j < xs.length
         ·rw[if_pos hj];have h7:=a7 j xs[j] (by simp[hj]);rw[Nat.zero_add,hB.cell]at h7;rw[h7];simp[hj]
         ·rw[if_neg hj,List.getElem?_eq_none (by omega)]
        rw[← List.take_append_drop xs.length vs,this];simp
       have hspl:splice vs (0+i * row.k+o) ((fr f N).eval v).cells.toList=(x1++((xa++((fr f N).eval v).cells.toList++xc)++x3))++vs.drop xs.length:=by
        have e5:vs=(x1++xa)++(xm++(xc++x3++vs.drop xs.length)):=by
         rw[ex]at hpre;rw[ex]
         simpa using hpre
        have h7:=splice_mid (x1++xa) xm (xc++x3++vs.drop xs.length) ((fr f N).eval v).cells.toList (by omega);rw[← e5]at h7;rw[show 0+i * row.k+o=(x1++xa).length from by simp[hl1,hla],h7];simp
       have hlies1:Lies (setB w g (.cells (splice vs (0+i * row.k+o) ((fr f N).eval v).cells.toList).toArray T' (0,0))) g 0 (x1++((xa++((fr f N).eval v).cells.toList++xc)++x3)):=by
        have h7:=(hB.setSame T' (splice vs (0+i * row.k+o) ((fr f N).eval v).cells.toList)).lies;intro j u hu;refine h7 j u ?_;rw[hspl,List.getElem?_append_left (List.getElem?_eq_some_iff.1 hu).1];exact hu
       have hold:∀be∈Ga++((Gp++Gs)++Gc),be∈G:=by
        intro be hb;rw[eG];simp only[List.mem_append]at hb ⊢
        grind
       have hmem:∀be∈Ga++((Gp++G1++Gs)++Gc),be∈G∨be∈G1:=by
        intro be hb;simp only[List.mem_append]at hb;by_cases h8:be∈G1
        ·exact .inr h8
        ·refine .inl (hold be ?_);simp only[List.mem_append]
         grind
       have hsome2:∀be∈Ga++((Gp++G1++Gs)++Gc),be.2≤γ2.h be.1∨(Lim γ2 (setB w g (.cells (splice vs (0+i * row.k+o) ((fr f N).eval v).cells.toList).toArray T' (0,0))) be.1∧be.1≠g):=by
        intro be hb;rcases hmem be hb with h8|h8
        ·rcases a11 be h8 with h9|⟨h9,h10⟩
         ·exact .inl (by rw[hh2];exact h9)
         ·exact .inr ⟨⟨h9.1,h9.2.1,by rw[size_setB];exact h9.2.2.1,fun j=>by rw[World.frozen?_of_block (w:=w) (hoff.block _ h10)];exact h9.2.2.2 j⟩,h10⟩
        ·rcases e1.some_ be h8 with h9|h9
         ·exact .inl (by rw[hh2];exact h9)
         ·have h10:be.1≠g:=fun e=>by have:=h9.1;rw[e,a3]at this;cases this
          exact .inr ⟨⟨by rw[o2 _ (by rw[h9.1];simp)];exact h9.1,by rw[hh2];exact h9.2.1,by rw[size_setB];exact h9.2.2.1,fun j=>by rw[World.frozen?_of_block (w:=w) (hoff.block _ h10)];exact h9.2.2.2 j⟩,h10⟩
       have hrp1:RpE (setB w g (.cells (splice vs (0+i * row.k+o) ((fr f N).eval v).cells.toList).toArray T' (0,0))) (row.es.set i (splC e o ds)) (x1++((xa++((fr f N).eval v).cells.toList++xc)++x3)) (Ga++((Gp++G1++Gs)++Gc)):=by
        have h7:RpE w (row.es.set i (splC e o ds)) (x1++((xa++((fr f N).eval v).cells.toList++xc)++x3)) (Ga++((Gp++G1++Gs)++Gc)):=by
         rw[List.set_eq_take_append_cons_drop,if_pos hilt];refine RpE.append _ ra ?_;simp only[RpE];exact⟨_,_,_,_,rfl,rfl,hnew,rc⟩
        refine h7.keep _ fun be hb j hj=>?_;by_cases h8:be.1=g
        ·rcases hsome2 be hb with h9|h9
         ·rw[h8,hh2,hg0]at h9;omega
         ·exact absurd h8 h9.2
        ·exact World.cell?_of_block (w:=w) (hoff.block _ h8)
       obtain⟨γ3,h6,h7,h8,h9,_,_⟩:=h5.closeSame (r:=r) (x:={row with es:=row.es.set i (splC e o ds) }) (n:=m) (c:=cc) (g:=g) (o:=0) (by simp[q2]) q3 q4 q5
        (fun y hy=>by
         rcases List.mem_or_eq_of_mem_set hy with h|h
         ·exact q6 y h
         ·rw[h];unfold splC;simp[hel];omega)
        (fun hf y hy=>by
         rcases List.mem_or_eq_of_mem_set hy with h|h
         ·exact q7 hf y h
         ·rw[h];intro z hz;unfold splC at hz;simp only[List.mem_append]at hz;rcases hz with (hz|hz)|hz
          ·exact q7 hf e (List.mem_of_getElem? hei) z (List.mem_of_mem_take hz)
          ·have:=hfl hf;simp only[plains,List.all_eq_true]at this;exact this z hz
          ·exact q7 hf e (List.mem_of_getElem? hei) z (List.mem_of_mem_drop hz))
        (by rw[size_setB];exact a2) (.inl a4) (by have:=(i2.own g (by rw[a4];simp)).2;exact this) ⟨by rw[size_setB];omega,hoff.fz⟩ hrp1 hlies1 (by rw[hh2,hg0];omega) (fun _=>by rw[hh2,hg0]) (fun _=>⟨rfl,T',_,hB.setSame T' _,by rw[splice_len (by omega)];exact hvl⟩)
        hsome2
        (fun hd=>by
         have hdp:dp=true:=by
          have hd':row.deep=true:=hd
          simpa [hd'] using hdd
         obtain⟨n1,l1⟩:=e1.deep hdp;obtain⟨n2,l2'⟩:=a12 hd;refine⟨?_,fun be hb=>?_⟩
         ·have hdisj:∀y∈G.map Prod.fst,y∉G1.map Prod.fst:=by
           intro y hy hy1;obtain⟨be,hb,rfl⟩:=List.mem_map.1 hy;obtain⟨be1,hb1,e8⟩:=List.mem_map.1 hy1;have u1:=(l2' be hb).2;have u2:=(l1 be1 hb1).1.1;rw[e8,u1]at u2;cases u2
          have hg1:g∉G1.map Prod.fst:=by
           intro hy1;obtain⟨be1,hb1,e8⟩:=List.mem_map.1 hy1;have u2:=(l1 be1 hb1).1.1;rw[e8,a3]at u2;cases u2
          rw[eG]at n2 hdisj;exact nodup_swap n2 n1 hdisj hg1
         ·rcases hsome2 be hb with h10|h10
          ·rcases hmem be hb with h11|h11
           ·have:=(l2' be h11).1;rcases a11 be h11 with h12|h12
            ·refine⟨this.1,this.2.1,?_⟩;have hne:be.1≠g:=fun e9=>by
              have:=(List.nodup_cons.1 n2).1;exact this (by rw[← e9];exact List.mem_map_of_mem h11)
             exact⟨by rw[size_setB];exact this.2.2.1,fun j=>by rw[World.frozen?_of_block (w:=w) (hoff.block _ hne)];exact this.2.2.2 j⟩
            ·exact⟨this.1,this.2.1,by rw[size_setB];exact this.2.2.1,fun j=>by rw[World.frozen?_of_block (w:=w) (hoff.block _ h12.2)];exact this.2.2.2 j⟩
           ·have h12:=(l1 be h11).1;have hne:be.1≠g:=fun e=>by have:=h12.1;rw[e,a3]at this;cases this
            exact⟨by rw[o2 _ (by rw[h12.1];simp)];exact h12.1,by rw[hh2];exact h12.2.1,by rw[size_setB];exact h12.2.2.1,fun j=>by rw[World.frozen?_of_block (w:=w) (hoff.block _ hne)];exact h12.2.2.2 j⟩
          ·exact h10.1)
        (by rw[sl2,e1.sl];exact hsl)
       have e6:(s1.dropRow r).setRow r {row with es:=row.es.set i (splC e o ds) }=s1.setRow r {row with es:=row.es.set i (splC e o ds) }:=by
        have:drp (drp s1.rw r) r=drp s1.rw r:=by simp[drp,List.filter_filter]
        simp[St.setRow,St.dropRow,this]
       rw[e6]at h6;refine h γ3 f _ h6 ⟨?_,fun _ _=>by rw[h8,b2,e1.β],fun y=>by have:=h9 y;rw[hh2]at this;exact Nat.le_trans (e1.h y) this,.skip⟩;simp only[touch,hb];exact hadv
     ·cases he
    ·cases he
   ·cases he
  ·cases he
 ·cases he
end
end
section
open Go.RowKit
section
variable {P:Program} {γ:Gh} {h0:Nat→Nat} {io:List Nat} {w0:World} {s s':St} {f:Fm} {w:World} {N:Nat} {ty:TypeId} {pos:String} {aft:Array Edge} {gd:Option (Nat×Bool)} {K:Fm→World→Prop}
 {cf:Nat→List A→Option (List A×List A)} {mf:Nat→Bool→List D→Int→Option (List D×Int)}
theorem appSrc_rel(hi:Inv γ h0 io w0 s f w){c:C}{u:Value}(hc:CR γ w c u){k:Nat}{fl:Bool}{es:List (List D)}{dp:Bool}{s1:St}(he:appSrc s k fl c=some (es,dp,s1)) :
  ∃γ1 G news,Inv γ1 h0 io w0 s1 f w∧RpE w es news G∧Emb γ w dp G γ1∧(∀e∈es,e.length=k)∧(fl=true→flat es)∧((es.length=0∧∃A c,u=.slice A 0 c)∨∃b o c,u=.slice (some ⟨b,o,none⟩) es.length c∧Lies w b o news):=by
 cases c with
 |d x=>
  cases x with
  |list k' fl' es'=>
   simp only[appSrc]at he
   split at he
   ·rename_i hk;obtain⟨rfl,rfl⟩:=hk;simp only[Option.some.injEq,Prod.mk.injEq]at he;obtain⟨rfl,rfl,rfl⟩:=he;simp only[CR,Rp]at hc;obtain⟨F,⟨A,n,c,q1,q2,q3,q4,q5,q6,q7,q8⟩,hset⟩:=hc;rcases q8 with ⟨q8,rfl⟩|⟨h1,b,o,xs,G,rfl,rfl,a2,a3⟩
    ·have:es'=[]:=List.eq_nil_of_length_eq_zero (by omega);subst this;exact⟨γ,[],[],hi,by simp[RpE],⟨rfl,rfl,fun _=>Nat.le_refl _,fun _ h=>by simp at h,fun _=>by simp,fun _ h=>⟨h,rfl⟩,fun _=>.inl rfl⟩,q7,q5,.inl ⟨rfl,A,c,by rw[q1,q8]⟩⟩
    ·refine⟨γ,G,xs,hi,a2,⟨rfl,rfl,fun _=>Nat.le_refl _,fun be hb=>.inl (hset be (by simp[hb])),fun hf=>?_,fun _ h=>⟨h,rfl⟩,fun _=>.inl rfl⟩,q7,q5,.inr ⟨b,o,c,by rw[q1,q2],a3⟩⟩;have:G=[]:=a2.plain (q5 hf);subst this;simp
   ·cases he
  |_=>simp[appSrc]at he
 |nil k' fl'=>
  simp only[appSrc,Option.some.injEq,Prod.mk.injEq]at he;obtain⟨rfl,rfl,rfl⟩:=he;simp only[CR]at hc;exact⟨γ,[],[],hi,by simp[RpE],⟨rfl,rfl,fun _=>Nat.le_refl _,fun _ h=>by simp at h,fun _=>by simp,fun _ h=>⟨h,rfl⟩,fun _=>.inl rfl⟩,fun _ h=>by simp at h,fun _=>flat_nil,.inl ⟨rfl,none,0,hc.1⟩⟩
 |ref q=>
  simp only[appSrc]at he
  split at he
  ·rename_i x hx
   split at he
   ·rename_i hk;obtain⟨rfl,rfl⟩:=hk;simp only[Option.some.injEq,Prod.mk.injEq]at he;obtain⟨rfl,rfl,rfl⟩:=he;obtain⟨γ1,G1,i1,b1,sl1,m1,r1,s1',d1,o1,k1,w1⟩:=hi.take hx;simp only[CR]at hc;simp only[Rp]at r1;obtain⟨A,n,c,q1,q2,q3,q4,q5,q6,q7,q8⟩:=r1;have limk:∀g,γ.ω g=.lim→γ1.ω g=.lim∧γ1.h g=γ.h g:=fun g hg=>by
     have:=k1 g (by rw[hg];simp);exact⟨this.1.trans hg,this.2⟩
    rcases q8 with ⟨q8,rfl⟩|⟨h1,b,o,xs,G,rfl,rfl,a2,a3⟩
    ·have:x.es=[]:=List.eq_nil_of_length_eq_zero (by omega);rw[this];exact⟨γ1,[],[],i1,by simp[RpE],⟨b1,sl1,m1,fun _ h=>by simp at h,fun _=>by simp,limk,w1⟩,fun _ h=>by simp at h,fun _=>flat_nil,.inl ⟨rfl,A,c,by rw[hc.1,q1,q8]⟩⟩
    ·refine⟨γ1,G,xs,i1,a2,⟨b1,sl1,m1,fun be hb=>?_,fun hf=>?_,limk,w1⟩,q7,q5,.inr ⟨b,o,c,by rw[hc.1,q1,q2],a3⟩⟩
     ·cases hd:(x.deep && !x.fz) with
      |true=>exact .inr ((d1 hd).2 be (by simp[hb]))
      |false=>exact .inl (s1' hd be (by simp[hb]))
     ·rw[Bool.or_eq_true]at hf;rcases hf with hf|hf
      ·obtain⟨n1,l1⟩:=d1 hf;refine⟨(List.nodup_cons.1 n1).2,fun be hb=>⟨l1 be (by simp[hb]),?_⟩⟩;rcases o1 be (by simp[hb]) with h|h
       ·rw[h];simp
       ·simp[h]at hf
      ·have:G=[]:=a2.plain (q5 hf);subst this;simp
   ·cases he
  ·cases he
 |_=>simp[appSrc]at he
theorem look_drop{α:Type}(l:List (Nat×α))(r:Nat):drp (drp l r) r=drp l r:=by simp[drp,List.filter_filter]
theorem dropRow_new(s:St)(r:Nat)(x:Row):(s.dropRow r).newRow r x=s.newRow r x:=by
 simp[St.newRow,St.setRow,St.dropRow,St.kill,look_drop]
theorem n_app(hi:Inv γ h0 io w0 s f w){T E:TypeId}{k by_:Nat}{fl:Bool}{x y:Operand}{a b:KX}{d:Nat}{i:TypeInfo}{z:Value}(hU:P.underlying T=some (.slice E))(hI:P.info? E=some i)(hz:i.zero=some z)(hsz:i.size=k)(hby:i.bytes=by_)(hzs:z.cells.size=k)(hk0:0 < k)
  (hx:okX N x a=true) (hy:okX N y b=true) (he:evN cf mf s (some d) (.app k by_ fl a b)=some s') (h:∀γ' f' w',Inv γ' h0 io w0 s' f' w'→Tr (some d) (touch s (some d) (.app k by_ fl a b)) γ w γ' w' f f'→K f' w') :
  Op1 P N ⟨some d,.call {callee:=.builtin .append,args:=#[x,y],argTypes:=#[T,T] },ty,pos,aft,gd⟩ f w K:=by
 have hpx:=evX_rel hi hx;have hpy:=evX_rel hi hy;simp only[evN]at he
 split at he
 ·cases he
 ·rename_i es dp s1 hsrc;obtain⟨γ1,G2,news,i1,r2,e1,hk2,hf2,hu⟩:=appSrc_rel hi hpy hsrc;have hnl:news.length=es.length * k:=RpE.length es r2 hk2;have hn1:=r2.isOne;have hrun:∀{v' w'},(Builtin.append_ #[T,T] ty #[(fr f N).eval x,(fr f N).eval y]).run P w=.ok v' w'→(execOp (fr f N).eval ⟨some d,.call {callee:=.builtin .append,args:=#[x,y],argTypes:=#[T,T] },ty,pos,aft,gd⟩).run P w=.ok (.value v') w':=by
   intro v' w' hr;simp[execOp,resolve,invoke,builtin,hr]
  split at he
  ·
   rename_i k' fl' hxa;rw[hxa]at hpx;simp only[CR]at hpx
   split at he
   ·rename_i hc;obtain⟨rfl,rfl,c3,c4⟩:=hc;simp only[Option.some.injEq]at he;subst he;obtain⟨v',w',hr,hout⟩:=run_app (P:=P) (w:=w) (ty:=ty) (k:=k') (by_:=by_) hU hI hz hsz hby hzs hk0 (v:=(fr f N).eval x) (n:=0) (xs:=[]) (by simp) (.inl ⟨hpx.1,rfl⟩) (u:=(fr f N).eval y) (m:=es.length) hnl hu hn1 (by omega) (by simpa using c3);refine o_val' (hrun hr) ?_;rcases hout with ⟨h1,rfl,rfl⟩|⟨g,cap,T',cur,h1,_⟩|⟨cap,cs,rfl,h2,h3,h4,h5,h6,h7,h8⟩
    ·have hes:es=[]:=List.eq_nil_of_length_eq_zero h1;subst hes;have hR:RowR γ1.h w' ⟨[],k',fl',dp,true,false⟩ ((fr f N).eval x) []:=⟨none,0,0,hpx.1,rfl,Nat.le_refl _,by simp[maxLen],hk0,fun _ h=>by simp at h,fun _=>flat_nil,.inl ⟨rfl,rfl,rfl⟩⟩
     obtain⟨γ',j1,j2,j3,j4,_⟩:=i1.addRow (r:=d) hR (by simp) (fun _ h=>by simp at h);exact h γ' _ w' (j1.put d (.ref d) _ (by simp only[CR,j2];exact⟨trivial,none,0,0,hpx.1⟩)) ⟨Adv.refl _ _ _,fun x _=>by rw[j3,e1.β],fun g=>by rw[j4];exact e1.h g,.put⟩
    ·rw[hpx.1]at h1;cases h1
    ·simp only[Nat.zero_add,List.nil_append]at h2 h8 ⊢;obtain⟨γ',j1,j2,j3,j4⟩:=i1.newRow h5 h6 (n:=es.length) (c:=cap) h4 r2 h8 rfl h2 h3 h7 hk0 hk2 hf2 e1 d;exact h γ' _ w' (j1.put d (.ref d) _ (by simp only[CR,j2];exact⟨trivial,_,_,_,rfl⟩)) ⟨adv_bel hi h5 _,fun x _=>by rw[j3,e1.β],fun g=>Nat.le_trans (e1.h g) (j4 g),.put⟩
   ·cases he
  ·rename_i r hxa;rw[hxa]at hpx;simp only[CR]at hpx
   split at he
   ·rename_i row hl
    split at he
    ·rename_i hc;obtain⟨rfl,rfl,happ,c3,c4⟩:=hc;simp only[Option.some.injEq]at he;subst he;obtain⟨γ2,A,n,c,i2,b2,sl2,hh2,o2,l2,q1,q2,q3,q4,q5,q6,q7,q8⟩:=i1.openRow hl;rw[e1.sl]at q1;have hxv:(fr f N).eval x=.slice A n c:=hpx.1.trans q1;have hrX:r∈touch s (some d) (.app row.k by_ row.fl a b):=by simp[touch,hxa,rowsOf]
     have hek:∀e∈row.es++es,e.length=row.k:=fun e he=>by
      rcases List.mem_append.1 he with he|he
      ·exact q6 e he
      ·exact hk2 e he
     have hff:row.fl=true→flat (row.es++es):=fun hf e he=>by
      rcases List.mem_append.1 he with he|he
      ·exact q7 hf e he
      ·exact hf2 hf e he
     have lim2:∀g,Lim γ1 w g→Lim γ2 w g:=fun g hg=>⟨by rw[o2 _ (by rw[hg.1];simp)];exact hg.1,by rw[hh2];exact hg.2.1,hg.2.2⟩
     rcases q8 with ⟨rfl,rfl⟩|⟨g,o,xs,G,rfl,a2,a3,a4,a5,a6,a7,a8,a9,a10,a11,a12⟩
     ·
      have hn0:n=0:=by omega
      subst hn0;have hre:row.es=[]:=List.eq_nil_of_length_eq_zero q2.symm;obtain⟨v',w',hr,hout⟩:=run_app (P:=P) (w:=w) (ty:=ty) (k:=row.k) (by_:=by_) hU hI hz hsz hby hzs hk0 (v:=(fr f N).eval x) (n:=0) (xs:=[]) (by simp) (.inl ⟨hxv,rfl⟩) (u:=(fr f N).eval y) (m:=es.length) hnl hu hn1 (by omega) (by rw[hre]at c3;simpa using c3);refine o_val' (hrun hr) ?_;rcases hout with ⟨h1,rfl,rfl⟩|⟨g,cap,T',cur,h1,_⟩|⟨cap,cs,rfl,h2,h3,h4,h5,h6,h7,h8⟩
      ·have hes:es=[]:=List.eq_nil_of_length_eq_zero h1;subst hes;have hR:RowR γ2.h w' {row with es:=row.es++[],deep:=row.deep && dp } ((fr f N).eval x) []:=⟨none,0,0,hxv,by simp[hre],Nat.le_refl _,by simp[maxLen],q5,hek,hff,.inl ⟨rfl,rfl,rfl⟩⟩
       obtain⟨γ',j1,j2,j3,j4,_⟩:=i2.addRow (r:=r) hR (by simp) (fun _ h=>by simp at h);rw[dropRow_new]at j1;exact h γ' _ w' (j1.put d (.ref r) _ (by simp only[CR,j2];exact⟨trivial,none,0,0,hxv⟩)) ⟨Adv.refl _ _ _,fun x _=>by rw[j3,b2,e1.β],fun g=>by rw[j4,hh2];exact e1.h g,.put⟩
      ·rw[hxv]at h1;cases h1
      ·simp only[Nat.zero_add,List.nil_append]at h2 h8 ⊢;have i3:=i2.bel h5;have hlies:Lies w' w.heap.size 0 news:=by
        intro j u hu;rw[Nat.zero_add,h6.cell];rw[← h8,List.getElem?_take]at hu
        split at hu
        ·exact hu
        ·cases hu
       have hlt:=RpE.lt es r2;obtain⟨γ',j1,j2,j3,j4,_⟩:=i3.closeRow (r:=r) (x:={row with es:=row.es++es,deep:=row.deep && dp }) (n:=es.length) (c:=cap) (g:=w.heap.size) (o:=0) (by simp[hre]) h2 h3 q5 hek hff (by omega) (.inr (i2.ω_new (Nat.le_refl _))) (.inl hi.size) ⟨by omega,h5.thaw _ (Nat.le_refl _)⟩ (by simp only[hre,List.nil_append];exact r2.bel h5) hlies (by rw[i2.hnew _ (Nat.le_refl _)];omega) (fun _=>i2.hnew _ (Nat.le_refl _)) (fun _=>⟨rfl,E,cs,h6,h7⟩)
        (fun be hb=>by
         rcases e1.some_ be hb with h9|h9
         ·exact .inl (by rw[hh2];exact h9)
         ·have:=lim2 _ h9;exact .inr ⟨⟨this.1,this.2.1,(adv_bel hi h5 (fun _=>False)).kthaw _ this.2.2⟩,by have:=hlt be hb;omega⟩)
        (fun hd=>by
         have hdp:dp=true:=by
          have hd':(row.deep && dp)=true:=hd;simp at hd';exact hd'.2
         obtain⟨n1,l1⟩:=e1.deep hdp;refine⟨List.nodup_cons.2 ⟨fun hm=>?_,n1⟩,fun be hb=>?_⟩
         ·obtain⟨be,hb,e⟩:=List.mem_map.1 hm;have:=hlt be hb;omega
         ·have:=lim2 _ (l1 be hb).1;exact⟨this.1,this.2.1,(adv_bel hi h5 (fun _=>False)).kthaw _ this.2.2⟩)
       rw[dropRow_new]at j1;exact h γ' _ w' (j1.put d (.ref r) _ (by simp only[CR,j2];exact⟨trivial,_,_,_,rfl⟩)) ⟨adv_bel hi h5 _,fun x _=>by rw[j3,b2,e1.β],fun g=>by have:=j4 g;rw[hh2]at this;exact Nat.le_trans (e1.h g) this,.put⟩
     ·obtain⟨rfl,T',vs,hB,hvl⟩:=a10 happ;have hxl:xs.length=n * row.k:=by rw[RpE.length _ a6 q6,q2]
      have htk:vs.take (n * row.k)=xs:=by
       rw[← hxl]
       apply List.ext_getElem?
       intro j;rw[List.getElem?_take];by_cases hj:j < xs.length
       ·rw[if_pos hj];have h7:=a7 j xs[j] (by simp[hj]);rw[Nat.zero_add,hB.cell]at h7;rw[h7];simp[hj]
       ·rw[if_neg hj,List.getElem?_eq_none (by omega)]
      have hlt1:=RpE.lt _ a6;have hlt2:=RpE.lt _ r2;obtain⟨v',w',hr,hout⟩:=run_app (P:=P) (w:=w) (ty:=ty) (k:=row.k) (by_:=by_) hU hI hz hsz hby hzs hk0 (v:=(fr f N).eval x) (n:=n) (xs:=xs) hxl (.inr ⟨g,c,T',vs,hxv,hB,q3,q4,hvl,htk⟩) (u:=(fr f N).eval y) (m:=es.length) hnl hu hn1 (by omega) (by rw[q2];exact c3);have hγω:γ.ω g=.row r:=by
       rcases e1.own g with h|h|h
       ·rw[← h];exact a3
       ·rw[a3]at h;cases h
       ·rw[a3]at h;cases h
      have hrE:RpE w (row.es++es) (xs++news) (G++G2):=RpE.append _ a6 r2;have some2:∀be∈G++G2,be.2≤γ2.h be.1∨(Lim γ2 w be.1∧be.1≠g):=by
       intro be hb;rcases List.mem_append.1 hb with hb|hb
       ·rw[hh2];exact a11 be hb
       ·rcases e1.some_ be hb with h9|h9
        ·exact .inl (by rw[hh2];exact h9)
        ·exact .inr ⟨lim2 _ h9,fun e=>by have:=h9.1;rw[e,a3]at this;cases this⟩
      have deep2:(row.deep && dp)=true→(g::(G++G2).map Prod.fst).Nodup∧∀be∈G++G2,Lim γ2 w be.1:=by
       intro hd;rw[Bool.and_eq_true]at hd;obtain⟨n1,l1⟩:=e1.deep hd.2;obtain⟨n2,l2'⟩:=a12 hd.1;refine⟨?_,fun be hb=>?_⟩
       ·rw[List.map_append,← List.cons_append,List.nodup_append];refine⟨n2,n1,?_⟩;intro y hy y' hy' e;subst e;obtain⟨be1,hb1,e8⟩:=List.mem_map.1 hy';have u2:=(l1 be1 hb1).1.1;rcases List.mem_cons.1 hy with rfl|hy
        ·rw[e8,a3]at u2;cases u2
        ·obtain⟨be,hb,rfl⟩:=List.mem_map.1 hy;rw[e8,(l2' be hb).2]at u2;cases u2
       ·rcases List.mem_append.1 hb with hb|hb
        ·exact (l2' be hb).1
        ·exact lim2 _ (l1 be hb).1
      refine o_val' (hrun hr) ?_;rcases hout with ⟨h1,rfl,rfl⟩|⟨g',cap,T'',cur,h1,h2,h3,h4,h5,h6,h7,rfl⟩|⟨cap,cs,rfl,h2,h3,h4,h5,h6,h7,h8⟩
      ·have hes:es=[]:=List.eq_nil_of_length_eq_zero h1;subst hes;simp only[RpE]at r2;obtain⟨rfl,rfl⟩:=r2;simp only[List.append_nil]at hrE some2 deep2 hek hff;obtain⟨γ',j1,j2,j3,j4,_⟩:=i2.closeRow (r:=r) (x:={row with es:=row.es++[],deep:=row.deep && dp }) (n:=n) (c:=c) (g:=g) (o:=0) (by simp[q2]) q3 q4 q5 (by simpa using hek) (by simpa using hff) a2 (.inl a4) (i2.own g (by rw[a4];simp)).2 a5 (by simpa using hrE) a7 (by rw[hh2];exact a8) (fun hf=>by rw[hh2];exact a9 hf) (fun _=>⟨rfl,T',vs,hB,hvl⟩) some2 deep2;rw[dropRow_new]at j1;exact h γ' _ w' (j1.put d (.ref r) _ (by simp only[CR,j2,hxv];exact⟨trivial,_,_,_,rfl⟩)) ⟨Adv.refl _ _ _,fun x _=>by rw[j3,b2,e1.β],fun g=>by have:=j4 g;rw[hh2]at this;exact Nat.le_trans (e1.h g) this,.put⟩
      ·rw[hxv]at h1;simp only[Value.slice.injEq,Option.some.injEq,Addr.mk.injEq,and_true]at h1;obtain⟨rfl,_,rfl⟩:=h1;subst h3;have hcv:cur=vs:=by
        unfold Blk at h2 hB;rw[hB]at h2;simp only[Option.some.injEq,Obj.cells.injEq,and_true]at h2;have:=h2.1
        simpa using this.symm
       subst hcv;have hoff:=Off.setB w g (splice cur (n * row.k) news).toArray T'';have hfit:n * row.k+news.length≤cur.length:=by rw[hnl,hvl,← Nat.add_mul];exact Nat.mul_le_mul_right _ h4
       have hcells:∀j,j < n * row.k→(setB w g (.cells (splice cur (n * row.k) news).toArray T'' (0,0))).cell? ⟨g,j,none⟩=w.cell? ⟨g,j,none⟩:=by
        intro j hj;rw[(hB.setSame T'' (splice cur (n * row.k) news)).cell,hB.cell];unfold splice;rw[List.append_assoc,List.getElem?_append_left (by simp;omega),List.getElem?_take,if_pos hj]
       have i3:=i2.adv (adv_off i2 hoff (M:=fun o=>o=.lim) a4 (fun j hj=>hcells j (by rw[hh2]at hj;omega))) (by simp) (fun b hb=>by cases hb) (fun r hr=>by cases hr);have hadv:Adv γ (fun o=>∃i∈touch s (some d) (.app row.k by_ row.fl a b),o=.box i∨o=.row i) w _:=adv_off hi hoff ⟨r,hrX,.inr hγω⟩ (fun j hj=>hcells j (by have:=e1.h g;omega));have hrE':RpE (setB w g (.cells (splice cur (n * row.k) news).toArray T'' (0,0))) (row.es++es) (xs++news) (G++G2):=by
        refine hrE.keep _ fun be hb j hj=>?_;by_cases h8:be.1=g
        ·rw[h8];rcases some2 be hb with h9|h9
         ·rw[h8,hh2]at h9;exact hcells j (by omega)
         ·exact absurd h8 h9.2
        ·exact World.cell?_of_block (w:=w) (hoff.block _ h8)
       have hlies:Lies (setB w g (.cells (splice cur (n * row.k) news).toArray T'' (0,0))) g 0 (xs++news):=by
        have h9:=(hB.setSame T'' (splice cur (n * row.k) news)).lies;intro j u hu;refine h9 j u ?_;have e5:splice cur (n * row.k) news=(xs++news)++cur.drop (n * row.k+news.length):=by unfold splice;rw[htk]
        rw[e5,List.getElem?_append_left (List.getElem?_eq_some_iff.1 hu).1];exact hu
       have thaw1:∀y,Thaw w y→Thaw (setB w g (.cells (splice cur (n * row.k) news).toArray T'' (0,0))) y:=hadv.kthaw;obtain⟨γ',j1,j2,j3,j4,_⟩:=i3.closeRow (r:=r) (x:={row with es:=row.es++es,deep:=row.deep && dp }) (n:=n+es.length) (c:=c) (g:=g) (o:=0) (by simp[q2]) h4 q4 q5 hek hff (by rw[size_setB];exact a2) (.inl a4) (i2.own g (by rw[a4];simp)).2 ⟨by rw[size_setB];omega,hoff.fz⟩ hrE' hlies (by rw[hh2];exact Nat.le_trans a8 (Nat.add_le_add_left (Nat.mul_le_mul_right row.k (show n≤n+es.length by omega)) 0)) (fun hf=>by rw[hh2];exact a9 hf) (fun _=>⟨rfl,T'',_,hB.setSame T'' _,by rw[splice_len hfit];exact hvl⟩)
        (fun be hb=>by
         rcases some2 be hb with h9|h9
         ·exact .inl h9
         ·exact .inr ⟨⟨h9.1.1,h9.1.2.1,thaw1 _ h9.1.2.2⟩,h9.2⟩)
        (fun hd=>⟨(deep2 hd).1,fun be hb=>by have:=(deep2 hd).2 be hb;exact⟨this.1,this.2.1,thaw1 _ this.2.2⟩⟩)
       rw[dropRow_new]at j1;exact h γ' _ _ (j1.put d (.ref r) _ (by simp only[CR,j2];exact⟨trivial,_,_,_,rfl⟩)) ⟨hadv,fun x _=>by rw[j3,b2,e1.β],fun g=>by have:=j4 g;rw[hh2]at this;exact Nat.le_trans (e1.h g) this,.put⟩
      ·have i3:=i2.bel h5;have hlies:Lies w' w.heap.size 0 (xs++news):=by
        intro j u hu;rw[Nat.zero_add,h6.cell];rw[← h8,List.getElem?_take]at hu
        split at hu
        ·exact hu
        ·cases hu
       have hlt:∀be∈G++G2,be.1 < w.heap.size:=RpE.lt _ hrE;have thaw1:=(adv_bel hi h5 (fun _=>False)).kthaw;obtain⟨γ',j1,j2,j3,j4,_⟩:=i3.closeRow (r:=r) (x:={row with es:=row.es++es,deep:=row.deep && dp }) (n:=n+es.length) (c:=cap) (g:=w.heap.size) (o:=0) (by simp[q2]) h2 h3 q5 hek hff (by omega) (.inr (i2.ω_new (Nat.le_refl _))) (.inl hi.size) ⟨by omega,h5.thaw _ (Nat.le_refl _)⟩ (hrE.bel h5) hlies (by rw[i2.hnew _ (Nat.le_refl _)];omega) (fun _=>i2.hnew _ (Nat.le_refl _)) (fun _=>⟨rfl,E,cs,h6,h7⟩)
        (fun be hb=>by
         rcases some2 be hb with h9|h9
         ·exact .inl h9
         ·exact .inr ⟨⟨h9.1.1,h9.1.2.1,thaw1 _ h9.1.2.2⟩,by have:=hlt be hb;omega⟩)
        (fun hd=>by
         refine⟨List.nodup_cons.2 ⟨fun hm=>?_,(List.nodup_cons.1 (deep2 hd).1).2⟩,fun be hb=>by have:=(deep2 hd).2 be hb;exact⟨this.1,this.2.1,thaw1 _ this.2.2⟩⟩;obtain⟨be,hb,e⟩:=List.mem_map.1 hm;have:=hlt be hb;omega)
       rw[dropRow_new]at j1;exact h γ' _ w' (j1.put d (.ref r) _ (by simp only[CR,j2];exact⟨trivial,_,_,_,rfl⟩)) ⟨adv_bel hi h5 _,fun x _=>by rw[j3,b2,e1.β],fun g=>by have:=j4 g;rw[hh2]at this;exact Nat.le_trans (e1.h g) this,.put⟩
    ·cases he
   ·cases he
  ·cases he
theorem n_cut(hi:Inv γ h0 io w0 s f w){T E:TypeId}{k:Nat}{x:Operand}{lo hi':Option Operand}{a:KX}{b c:Option KX}{d:Nat}(hU:P.underlying T=some (.slice E))(hz:sizeB P E=some k)
  (hx:okX N x a=true) (hlo:okOX N lo b=true) (hhi:okOX N hi' c=true) (he:evN cf mf s (some d) (.cut k a b c)=some s') (h:∀γ' f' w',Inv γ' h0 io w0 s' f' w'→Tr (some d) (touch s (some d) (.cut k a b c)) γ w γ' w' f f'→K f' w') :
  Op1 P N ⟨some d,.slice T x lo hi' none,ty,pos,aft,gd⟩ f w K:=by
 have hpx:=evX_rel hi hx;simp only[evN]at he
 split at he
 ·rename_i k' fl hxa;rw[hxa]at hpx;simp only[CR]at hpx
  split at he
  ·rename_i l u hl hu
   split at he
   ·rename_i hc;obtain⟨rfl,rfl,rfl⟩:=hc;simp only[Option.some.injEq]at he;subst he;have hr:=x_slice2 (w:=w) (dst:=some d) (ty:=ty) (pos:=pos) (aft:=aft) (gd:=gd) hU (fun w=>run_sizeOf hz w) hpx.1 (optI_rel hi hlo hl) (optI_rel hi hhi hu) (Nat.le_refl _) (Nat.le_refl _);refine o_val' hr ?_;exact h γ _ w (hi.put d (.nil k' fl) _ (by simp only[CR];simp[hpx.2])) ⟨Adv.refl _ _ _,fun _ _=>rfl,fun _=>Nat.le_refl _,.put⟩
   ·cases he
  ·cases he
 ·rename_i r hxa;rw[hxa]at hpx;simp only[CR]at hpx
  split at he
  ·rename_i row hl
   split at he
   ·rename_i l u hlo' hhi''
    split at he
    ·rename_i hc;obtain⟨rfl,c1,c2,hfz⟩:=hc;simp only[Option.some.injEq]at he;subst he;obtain⟨γ2,A,n,c,i2,b2,sl2,hh2,o2,l2,q1,q2,q3,q4,q5,q6,q7,q8⟩:=hi.openRow hl;have hxv:(fr f N).eval x=.slice A n c:=hpx.1.trans q1;have hr:=x_slice2 (w:=w) (dst:=some d) (ty:=ty) (pos:=pos) (aft:=aft) (gd:=gd) hU (fun w=>run_sizeOf hz w) hxv (optI_rel hi hlo hlo') (by rw[q2];exact optI_rel hi hhi hhi'') c1 (by omega);have hlen:((row.es.take u).drop l).length=u - l:=by simp;omega
     have hmem:∀e∈(row.es.take u).drop l,e∈row.es:=fun e he=>List.mem_of_mem_take (List.mem_of_mem_drop he);have hek:∀e∈(row.es.take u).drop l,e.length=row.k:=fun e he=>q6 e (hmem e he);have hff:row.fl=true→flat ((row.es.take u).drop l):=fun hf e he=>q7 hf e (hmem e he);refine o_val' hr ?_;rcases q8 with ⟨rfl,rfl⟩|⟨g,o,xs,G,rfl,a2,a3,a4,a5,a6,a7,a8,a9,a10,a11,a12⟩
     ·have hu0:u=0:=by omega
      subst hu0;have hl0:l=0:=by omega
      subst hl0;have hR:RowR γ2.h w {row with es:=(row.es.take 0).drop 0,app:=row.app && b.isNone } (.slice none 0 0) []:=⟨none,0,0,rfl,by simp,Nat.le_refl _,by simp[maxLen],q5,hek,hff,.inl ⟨rfl,rfl,rfl⟩⟩
      obtain⟨γ',j1,j2,j3,j4,_⟩:=i2.addRow (r:=r) hR (by simp) (fun _ h=>by simp at h);rw[dropRow_new]at j1;exact h γ' _ w (j1.put d (.ref r) _ (by simp only[CR,j2];simp)) ⟨Adv.refl _ _ _,fun x _=>by rw[j3,b2],fun g=>by rw[j4,hh2];exact Nat.le_refl _,.put⟩
     ·rw[← List.take_append_drop u row.es]at a6;obtain⟨v1,v2,F1,F2,rfl,rfl,k1,_⟩:=RpE.append_inv _ a6;rw[← List.take_append_drop l (row.es.take u)]at k1;obtain⟨u1,u2,G1,G2,rfl,rfl,m1,m2⟩:=RpE.append_inv _ k1;have hu1:u1.length=l * row.k:=by
       rw[RpE.length _ m1 (fun e he=>q6 e (List.mem_of_mem_take (List.mem_of_mem_take he)))];simp only[List.length_take];rw[Nat.min_eq_left (by rw[Nat.min_eq_left (by omega)];exact c1)]
      have hlies:Lies w g (if c=l then o else o+l * row.k) u2:=by
       intro j y hy;split
       ·rename_i hcl;have:u2.length=0:=by
         rw[RpE.length _ m2 hek,hlen,show u - l=0 by omega,Nat.zero_mul]
        have:=(List.getElem?_eq_some_iff.1 hy).1;omega
       ·have:=a7 (l * row.k+j) y (by
         rw[List.append_assoc,List.getElem?_append_right (by omega),hu1,Nat.add_sub_cancel_left,List.getElem?_append_left (List.getElem?_eq_some_iff.1 hy).1];exact hy)
        rw[show o+(l * row.k+j)=o+l * row.k+j by omega]at this;exact this
      have hsub:∀be∈G2,be∈G1++G2++F2:=fun be hb=>by simp[hb]
      obtain⟨γ',j1,j2,j3,j4,_⟩:=i2.closeRow (r:=r) (x:={row with es:=(row.es.take u).drop l,app:=row.app && b.isNone }) (n:=u - l) (c:=c - l) (g:=g) (o:=if c=l then o else o+l * row.k) hlen.symm (by omega) (by omega) q5 hek hff a2 (.inl a4) (i2.own g (by rw[a4];simp)).2 a5 m2 hlies (by rw[hh2,a9 hfz];omega) (fun _=>by rw[hh2];exact a9 hfz)
       (fun happ=>by
        simp only[Bool.and_eq_true,Option.isNone_iff_eq_none]at happ;have hb0:l=0:=by
         have:=hlo';rw[happ.2]at this;simp only[optI,Option.some.injEq]at this;exact this.symm
        obtain⟨p1,p2⟩:=a10 happ.1;subst hb0;refine⟨by simp[p1],?_⟩
        simpa using p2)
       (fun be hb=>by rw[hh2];exact a11 be (hsub be hb))
       (fun hd=>by
        obtain⟨d1,d2⟩:=a12 hd;refine⟨?_,fun be hb=>(d2 be (hsub be hb)).1⟩;rw[List.nodup_cons]at d1 ⊢;refine⟨fun hm=>d1.1 ?_,?_⟩
        ·obtain⟨be,hb,e⟩:=List.mem_map.1 hm;exact List.mem_map.2 ⟨be,hsub be hb,e⟩
        ·have:=d1.2;rw[List.map_append,List.map_append,List.nodup_append,List.nodup_append]at this;exact this.1.2.1)
      rw[dropRow_new]at j1;have hv:(Value.slice (if c=l then some ⟨g,o,none⟩ else (some (⟨g,o,none⟩:Addr)).map (fun z=>z.add (l * row.k))) (u - l) (c - l))=.slice (some ⟨g,if c=l then o else o+l * row.k,none⟩) (u - l) (c - l):=by
       split<;>simp[add_mk]
      rw[hv];exact h γ' _ w (j1.put d (.ref r) _ (by simp only[CR,j2];exact⟨trivial,_,_,_,rfl⟩)) ⟨Adv.refl _ _ _,fun x _=>by rw[j3,b2],fun g=>by have:=j4 g;rw[hh2]at this;exact this,.put⟩
    ·cases he
   ·cases he
  ·cases he
 ·cases he
end
end
section
open Go.RowKit
def RVR(h:Nat→Nat)(w:World):RV→Value→List Nat→Prop
 | .d x,v,F=>F=[]∧∃G,Rp w x v G∧Settled h G
 | .row r,v,F=>RowR h w r v F∧F.Nodup
def RVRs(h:Nat→Nat)(w:World):List RV→List Value→List Nat→Prop
 |[],vs,F=>vs=[]∧F=[]
 |r::rs,vs,F=>∃v vs' F1 F2,vs=v::vs'∧F=F1++F2∧RVR h w r v F1∧RVRs h w rs vs' F2
def AR(h:Nat→Nat)(w:World):A→Value→List Nat→Prop
 | .val ag cs,v,F=>∃vs,RVRs h w cs vs F∧(ag=true→v=.agg vs.toArray)∧(ag=false→vs=[v])
 | .box cs,v,F=>∃g T vs F',v=.pointer (some ⟨g,0,none⟩)∧Blk w g T vs∧h g=0∧F=g::F'∧RVRs h w cs vs F'
def ARs(h:Nat→Nat)(w:World):List A→List Value→List Nat→Prop
 |[],vs,F=>vs=[]∧F=[]
 |a::as,vs,F=>∃v vs' F1 F2,vs=v::vs'∧F=F1++F2∧AR h w a v F1∧ARs h w as vs' F2
structure Chg (h:Nat→Nat) (F:List Nat) (w w':World) (h':Nat→Nat):Prop where
 os:w'.os=w.os
 tape:w'.tape=w.tape
 output:w'.output=w.output
 size:w.heap.size≤w'.heap.size
 block:∀g,g < w.heap.size→g∉F→w'.heap[g]?=w.heap[g]?
 cell:∀g j,g < w.heap.size→j < h g→w'.cell? ⟨g,j,none⟩=w.cell? ⟨g,j,none⟩
 mono:∀g,g < w.heap.size→h g≤h' g
 hold:∀g,g < w.heap.size→g∉F→h' g=h g
 hnew:∀g,w'.heap.size≤g→h' g=0
 kthaw:∀g,Thaw w g→Thaw w' g
def outVals:List A→List Value→List Value
 | .box _::as,v::vs=>v::outVals as vs
 | .val _ _::as,_::vs=>outVals as vs
 |_,_=>[]
def RetV(us:List Value)(v:Value):Prop:=us=[v]∨(us.length≠1∧v=.tuple us.toArray)
def tabName:String:= "internal/strconv.uint64pow10"
def Lay(P:Program)(w:World)(F:List Nat):Prop:=∀g,P.globalNamed tabName=some g→g < w.heap.size∧g∉F∧Lib.TabIs P w tabName .u64 Lib.pow10Tab
theorem Lay.step{P:Program}{w w':World}{F F':List Nat}(h:Lay P w F)(hs:w.heap.size≤w'.heap.size)(hfr:∀g,g < w.heap.size→g∉F→w'.heap[g]?=w.heap[g]?)(hF:∀g∈F',w.heap.size≤g∨g∈F):Lay P w' F':=by
 intro g hg;obtain⟨a,b,c⟩:=h g hg;refine⟨by omega,fun hm=>?_,?_⟩
 ·rcases hF g hm with h1|h1
  ·omega
  ·exact b h1
 ·unfold Lib.TabIs World.var? at c ⊢;rw[hg]at c ⊢;simp only[Option.bind_some]at c ⊢;rw[hfr g a b];exact c
def CallGo(P:Program)(g:FuncId)(as rs outs:List A)(w:World)(h:Nat→Nat)(vs:List Value)(F:List Nat):Prop:=
 ARs h w as vs F→F.Nodup→(∀g∈F,g < w.heap.size)→(∀g,w.heap.size≤g→h g=0)→
  Calls P g vs.toArray w fun e w'=>∃v us F1 F2 h',e=.returned v∧RetV us v∧ARs h' w' rs us F1∧ARs h' w' outs (outVals as vs) F2∧(F1++F2).Nodup∧(∀g∈F1++F2,(w.heap.size≤g∨g∈F)∧g < w'.heap.size)∧Chg h F w w' h'
def CallOk(P:Program)(g:FuncId)(as rs outs:List A):Prop:=
 ∀(w:World) (h:Nat→Nat) (vs:List Value) (F:List Nat),Lay P w F→CallGo P g as rs outs w h vs F
def CallAt(w0:World)(io:List Nat)(P:Program)(g:FuncId)(as rs outs:List A):Prop:=
 ∀(w:World) (h:Nat→Nat) (vs:List Value) (F:List Nat),w0.heap.size≤w.heap.size→(∀g,g < w0.heap.size→g∉io→w.heap[g]?=w0.heap[g]?)→(∀g∈F,w0.heap.size≤g∨g∈io)→CallGo P g as rs outs w h vs F
theorem CallOk.at_{P:Program}{g:FuncId}{as rs outs:List A}{w0:World}{io:List Nat}(h:CallOk P g as rs outs)(hL:Lay P w0 io):CallAt w0 io P g as rs outs:=
 fun w k vs F h1 h2 h3=>h w k vs F (hL.step h1 h2 h3)
def RpL(w:World):List D→List Value→List Fp→Prop
 |[],vs,Fs=>vs=[]∧Fs=[]
 |d::ds,vs,Fs=>∃v vs' F Fs',vs=v::vs'∧Fs=F::Fs'∧Rp w d v F∧RpL w ds vs' Fs'
def MarkGo(P:Program)(F0:FuncId)(ag:Bool)(ds:List D)(q:Int)(ds':List D)(q':Int)(w:World)(h:Nat→Nat)(v:Value)(vs:List Value)(Fs:List Fp):Prop:=
 RpL w ds vs Fs→(ag=true→v=.agg vs.toArray)→(ag=false→vs=[v])→IntKind.i64.wrap q=q→(Fs.flatten.map Prod.fst).Nodup→(∀G∈Fs,∀be∈G,h be.1=0∧Thaw w be.1)→(∀g,w.heap.size≤g→h g=0)→
  Calls P F0 #[v,.int .i64 q] w fun e w'=>e=.returned (.int .i64 q')∧IntKind.i64.wrap q'=q'∧RpL w' ds' vs Fs∧ds'.map D.plain=ds.map D.plain∧Chg h (Fs.flatten.map Prod.fst) w w' h
def MarkOk(P:Program)(F0:FuncId)(ag:Bool)(ds:List D)(q:Int)(ds':List D)(q':Int):Prop:=
 ∀(w:World) (h:Nat→Nat) (v:Value) (vs:List Value) (Fs:List Fp),Lay P w (Fs.flatten.map Prod.fst)→MarkGo P F0 ag ds q ds' q' w h v vs Fs
def MarkAt(w0:World)(io:List Nat)(P:Program)(F0:FuncId)(ag:Bool)(ds:List D)(q:Int)(ds':List D)(q':Int):Prop:=
 ∀(w:World) (h:Nat→Nat) (v:Value) (vs:List Value) (Fs:List Fp),w0.heap.size≤w.heap.size→(∀g,g < w0.heap.size→g∉io→w.heap[g]?=w0.heap[g]?)→(∀g∈Fs.flatten.map Prod.fst,w0.heap.size≤g∨g∈io)→MarkGo P F0 ag ds q ds' q' w h v vs Fs
theorem MarkOk.at_{P:Program}{F0:FuncId}{ag:Bool}{ds ds':List D}{q q':Int}{w0:World}{io:List Nat}(h:MarkOk P F0 ag ds q ds' q')(hL:Lay P w0 io):MarkAt w0 io P F0 ag ds q ds' q':=
 fun w k v vs Fs h1 h2 h3=>h w k v vs Fs (hL.step h1 h2 h3)
theorem rid_ne{d j i:Nat}(h:j≠i):rid d j≠rid d i:=by unfold rid;omega
section
variable {h0:Nat→Nat} {io:List Nat} {w0:World} {f:Fm} {w:World}
theorem Inv.put'{γ:Gh}{s:St}(hi:Inv γ h0 io w0 s f w)(d:Nat)(c:C)(hc:CR γ w c (f d)):Inv γ h0 io w0 (s.put (some d) c) f w:=
 {hi with
  sl:=fun e c' h=>by
   simp only[St.put,look]at h;by_cases he:d=e
   ·subst he;simp at h;subst h;exact hc
   ·rw[if_neg he]at h;exact hi.sl e c' h }
theorem RowR.slice{h:Nat→Nat}{x:Row}{v:Value}{F:List Nat}(hr:RowR h w x v F):∃A n c,v=.slice A n c:=by
 obtain⟨A,n,c,h1,_⟩:=hr;exact⟨A,n,c,h1⟩
theorem inCells_rel{d:Nat}:∀(vs:List RV) {us:List Value} {F:List Nat} (j:Nat) {γ:Gh} {s:St},Inv γ h0 io w0 s f w→RVRs γ.h w vs us F→F.Nodup→(∀g∈F,(γ.ω g=.free∨γ.ω g=.lim)∧g < w.heap.size∧(w0.heap.size≤g∨g∈io))→
  ∃γ',Inv γ' h0 io w0 (inCells d j vs s).2 f w∧CRs γ' w (inCells d j vs s).1 us∧γ'.β=γ.β∧γ'.h=γ.h∧(∀g,g∉F→γ'.ω g=γ.ω g)∧∀q,(∀i,j≤i→q≠rid d i)→γ'.sl q=γ.sl q
 |[],us,F,j,γ,s,hi,hr,_,_=>by
  simp only[RVRs]at hr;obtain⟨rfl,rfl⟩:=hr;exact⟨γ,hi,by simp[inCells,CRs],rfl,rfl,fun _ _=>rfl,fun _ _=>rfl⟩
 | .d x::vs,us,F,j,γ,s,hi,hr,hnd,hF=>by
  simp only[RVRs,RVR]at hr;obtain⟨v,vs',F1,F2,rfl,rfl,⟨rfl,G,hrp,hset⟩,hr⟩:=hr;obtain⟨γ',i1,c1,b1,h1,o1,s1⟩:=inCells_rel vs (j+1) hi hr (by simpa using hnd) (by simpa using hF);refine⟨γ',i1,?_,b1,h1,by simpa using o1,fun q hq=>s1 q (fun i hi=>hq i (by omega))⟩;simp only[inCells,CRs];exact⟨v,vs',rfl,by simp only[CR];exact⟨G,hrp,by rw[h1];exact hset⟩,c1⟩
 | .row x::vs,us,F,j,γ,s,hi,hr,hnd,hF=>by
  simp only[RVRs,RVR]at hr;obtain⟨v,vs',F1,F2,rfl,rfl,⟨hR,hn1⟩,hr⟩:=hr;rw[List.nodup_append]at hnd;obtain⟨_,hn2,hdis⟩:=hnd;obtain⟨γ1,i1,sl1,b1,h1,o1,q1⟩:=hi.addRow (r:=rid d j) hR hn1 (fun g hg=>by
   have:=hF g (by simp[hg]);exact⟨by rcases this.1 with h|h<;>simp[h],this.2⟩)
  obtain⟨γ2,i2,c2,b2,h2,o2,s2⟩:=inCells_rel vs (j+1) i1 (by rw[h1];exact hr) hn2 (fun g hg=>by
   have h3:g∉F1:=fun h=>hdis g h g hg rfl;rw[o1 g h3];exact hF g (by simp[hg]))
  refine⟨γ2,i2,?_,b2.trans b1,h2.trans h1,fun g hg=>?_,fun q hq=>?_⟩
  ·simp only[inCells,CRs];refine⟨v,vs',rfl,?_,c2⟩;simp only[CR];rw[s2 (rid d j) (fun i hi=>rid_ne (by omega)),sl1];exact⟨rfl,hR.slice⟩
  ·simp only[List.mem_append,not_or]at hg;rw[o2 g hg.2,o1 g hg.1]
  ·rw[s2 q (fun i hi=>hq i (by omega)),q1 q (hq j (Nat.le_refl _))]
theorem inCells_rel2{d:Nat}:∀(vs:List RV) {us:List Value} {F:List Nat} (j:Nat) {γ:Gh} {s:St},Inv γ h0 io w0 s f w→RVRs γ.h w vs us F→F.Nodup→(∀g∈F,(γ.ω g=.free∨γ.ω g=.lim)∧g < w.heap.size∧(w0.heap.size≤g∨g∈io))→
  ∃γ',Inv γ' h0 io w0 (inCells d j vs s).2 f w∧(∀γ2,γ2.h=γ'.h→(∀i,j≤i→i < j+vs.length→γ2.sl (rid d i)=γ'.sl (rid d i))→CRs γ2 w (inCells d j vs s).1 us)∧γ'.β=γ.β∧γ'.h=γ.h∧(∀g,g∉F→γ'.ω g=γ.ω g)∧∀q,(∀i,j≤i→q≠rid d i)→γ'.sl q=γ.sl q
 |[],us,F,j,γ,s,hi,hr,_,_=>by
  simp only[RVRs]at hr;obtain⟨rfl,rfl⟩:=hr;exact⟨γ,hi,fun _ _ _=>by simp[inCells,CRs],rfl,rfl,fun _ _=>rfl,fun _ _=>rfl⟩
 | .d x::vs,us,F,j,γ,s,hi,hr,hnd,hF=>by
  simp only[RVRs,RVR]at hr;obtain⟨v,vs',F1,F2,rfl,rfl,⟨rfl,G,hrp,hset⟩,hr⟩:=hr;obtain⟨γ',i1,c1,b1,h1,o1,s1⟩:=inCells_rel2 vs (j+1) hi hr (by simpa using hnd) (by simpa using hF);refine⟨γ',i1,fun γ2 e1 e2=>?_,b1,h1,by simpa using o1,fun q hq=>s1 q (fun i hi=>hq i (by omega))⟩;simp only[inCells,CRs];exact⟨v,vs',rfl,by simp only[CR];exact⟨G,hrp,by rw[e1,h1];exact hset⟩,c1 γ2 e1 (fun i h2 h3=>e2 i (by omega) (by simp;omega))⟩
 | .row x::vs,us,F,j,γ,s,hi,hr,hnd,hF=>by
  simp only[RVRs,RVR]at hr;obtain⟨v,vs',F1,F2,rfl,rfl,⟨hR,hn1⟩,hr⟩:=hr;rw[List.nodup_append]at hnd;obtain⟨_,hn2,hdis⟩:=hnd;obtain⟨γ1,i1,sl1,b1,h1,o1,q1⟩:=hi.addRow (r:=rid d j) hR hn1 (fun g hg=>by
   have:=hF g (by simp[hg]);exact⟨by rcases this.1 with h|h<;>simp[h],this.2⟩)
  obtain⟨γ2,i2,c2,b2,h2,o2,s2⟩:=inCells_rel2 vs (j+1) i1 (by rw[h1];exact hr) hn2 (fun g hg=>by
   have h3:g∉F1:=fun h=>hdis g h g hg rfl;rw[o1 g h3];exact hF g (by simp[hg]))
  refine⟨γ2,i2,fun γ3 e1 e2=>?_,b2.trans b1,h2.trans h1,fun g hg=>?_,fun q hq=>?_⟩
  ·simp only[inCells,CRs];refine⟨v,vs',rfl,?_,c2 γ3 e1 (fun i h2 h3=>e2 i (by omega) (by simp;omega))⟩;simp only[CR];rw[e2 j (Nat.le_refl _) (by simp),s2 (rid d j) (fun i hi=>rid_ne (by omega)),sl1];exact⟨rfl,hR.slice⟩
  ·simp only[List.mem_append,not_or]at hg;rw[o2 g hg.2,o1 g hg.1]
  ·rw[s2 q (fun i hi=>hq i (by omega)),q1 q (hq j (Nat.le_refl _))]
theorem RVRs.length{h:Nat→Nat}:∀{vs:List RV} {us:List Value} {F:List Nat},RVRs h w vs us F→us.length=vs.length
 |[],_,_,hr=>by simp only[RVRs]at hr;simp[hr.1]
 |_::_,_,_,hr=>by
  simp only[RVRs]at hr;obtain⟨v,vs',F1,F2,rfl,rfl,_,hr⟩:=hr;simp[RVRs.length hr]
theorem headD_rel{γ:Gh}{cs:List C}{v:Value}(h:CRs γ w cs [v]):CR γ w (cs.headD .any) v:=by
 cases cs with
 |nil=>simp[CRs]at h
 |cons c cs=>
  simp only[CRs]at h;obtain⟨v',vs',e,h1,_⟩:=h;simp only[List.cons.injEq]at e;rw[e.1];exact h1
theorem kills_in{p:Nat}:∀(vs:List RV) (j:Nat) (s:St),C.kills (900+p) (inCells (p+500) j vs s).1=(inCells (p+500) j vs s).1
 |[],j,s=>by simp[inCells,C.kills]
 | .d x::vs,j,s=>by simp only[inCells,C.kills,C.kill,kills_in vs (j+1) s]
 | .row x::vs,j,s=>by
  have h:rid (p+500) j≠900+p:=by unfold rid;omega
  simp only[inCells,C.kills,C.kill,kills_in vs (j+1),if_neg h]
theorem enterAs_rel:∀(as:List A) {vs:List Value} {F:List Nat} (p:Nat) {γ:Gh} {s:St},Inv γ h0 io w0 s f w→ARs γ.h w as vs F→F.Nodup→(∀g∈F,(γ.ω g=.free∨γ.ω g=.lim)∧g < w.heap.size∧(w0.heap.size≤g∨g∈io))→(∀i v,vs[i]?=some v→f (p+i)=v)→
  ∃γ',Inv γ' h0 io w0 (enterAs p as s) f w∧γ'.h=γ.h∧(∀q,q < p→γ'.β (900+q)=γ.β (900+q))∧∀i cs g,as[i]?=some (.box cs)→vs[i]?=some (.pointer (some ⟨g,0,none⟩))→γ'.β (900+(p+i))=g
 |[],vs,F,p,γ,s,hi,_,_,_,_=>⟨γ,hi,rfl,fun _ _=>rfl,fun i cs g h=>by simp at h⟩
 | .val ag cs::as,vs,F,p,γ,s,hi,hr,hnd,hF,hf=>by
  simp only[ARs,AR]at hr;obtain⟨v,vs',F1,F2,rfl,rfl,⟨us,hrs,ha,hb⟩,hr⟩:=hr;rw[List.nodup_append]at hnd;obtain⟨hn1,hn2,hdis⟩:=hnd;obtain⟨γ1,i1,c1,b1,h1,o1,_⟩:=inCells_rel (d:=p) cs 0 hi hrs hn1 (fun g hg=>hF g (by simp[hg]));have hfp:f p=v:=by simpa using hf 0 v rfl
  have i2:Inv γ1 h0 io w0 (enterA p (.val ag cs) s) f w:=by
   refine i1.put' p _ ?_;cases ag with
   |true=>
    rw[hfp,ha rfl];simp only[if_true,CR];exact⟨us,rfl,c1⟩
   |false=>
    rw[hfp];simp only[Bool.false_eq_true,if_false];rw[hb rfl]at c1;exact headD_rel c1
  obtain⟨γ2,i3,h3,p3,x3⟩:=enterAs_rel as (p+1) i2 (by rw[h1];exact hr) hn2 (fun g hg=>by
   have h3:g∉F1:=fun h=>hdis g h g hg rfl;rw[o1 g h3];exact hF g (by simp[hg])) (fun i u hu=>by rw[show p+1+i=p+(i+1) from by omega];exact hf (i+1) u (by simpa using hu))
  refine⟨γ2,i3,h3.trans h1,fun q hq=>by rw[p3 q (by omega),b1],fun i cs' g hi1 hi2=>?_⟩;cases i with
  |zero=>simp at hi1
  |succ i=>
   have:=x3 i cs' g (by simpa using hi1) (by simpa using hi2);rw[show p+(i+1)=p+1+i from by omega];exact this
 | .box cs::as,vs,F,p,γ,s,hi,hr,hnd,hF,hf=>by
  simp only[ARs,AR]at hr;obtain⟨v,vs',F1,F2,rfl,rfl,⟨g,T,us,F',rfl,hB,hg0,rfl,hrs⟩,hr⟩:=hr;rw[List.nodup_append]at hnd;obtain⟨hn1,hn2,hdis⟩:=hnd;obtain⟨hg1,hn1'⟩:=List.nodup_cons.1 hn1;obtain⟨γ1,i1,c1,b1,h1,o1,_⟩:=inCells_rel (d:=p+500) cs 0 hi hrs hn1' (fun g hg=>hF g (by simp[hg]));have hfp:=hf 0 _ rfl;rw[Nat.add_zero]at hfp;have hgF:=hF g (by simp);obtain⟨γ2,i2,j2,k2,l2,m2,w2⟩:=i1.addBox (b:=900+p) hB (by rw[o1 g hg1];exact hgF.1) hgF.2.2 (by rw[h1];exact hg0) c1;rw[kills_in]at i2;have i3:Inv γ2 h0 io w0 (enterA p (.box cs) s) f w:=i2.put' p (.ptr (900+p) 0) (by rw[hfp];simp only[CR,j2]);obtain⟨γ3,i4,h4,p4,x4⟩:=enterAs_rel as (p+1) i3 (by rw[l2,h1];exact hr) hn2 (fun y hy=>by
   have h3:y∉F':=fun h=>hdis y (by simp[h]) y hy rfl;have h5:y≠g:=fun h=>hdis y (by simp[h]) y hy rfl;rw[w2 y h5,o1 y h3];exact hF y (by simp[hy])) (fun i u hu=>by rw[show p+1+i=p+(i+1) from by omega];exact hf (i+1) u (by simpa using hu))
  refine⟨γ3,i4,h4.trans (l2.trans h1),fun q hq=>by rw[p4 q (by omega),k2 _ (by omega),b1],fun i cs' g' hi1 hi2=>?_⟩;cases i with
  |zero=>
   simp at hi2;rw[p4 _ (by omega),Nat.add_zero,j2,hi2]
  |succ i=>
   have:=x4 i cs' g' (by simpa using hi1) (by simpa using hi2);rw[show p+(i+1)=p+1+i from by omega];exact this
theorem wr_rel{γ:Gh}{s:St}(hi:Inv γ h0 io w0 s f w):∀(cs:List C) {vs:List Value} {rs:List RV},CRs γ w cs vs→mapO (wrCell s) cs=some rs→
  ∃F,RVRs γ.h w rs vs F∧(∀g∈F,∃r∈rowsOf cs,γ.ω g=.row r)∧((rowsOf cs).Nodup→F.Nodup)
 |[],vs,rs,hc,hm=>by
  simp only[mapO,Option.some.injEq]at hm;subst hm;simp only[CRs]at hc;subst hc;exact⟨[],by simp[RVRs],fun _ h=>by simp at h,fun _=>by simp⟩
 |c::cs,vs,rs,hc,hm=>by
  simp only[CRs]at hc;obtain⟨v,vs',rfl,hv,hvs⟩:=hc;simp only[mapO]at hm
  split at hm
  ·rename_i y hy;simp only[Option.map_eq_some_iff]at hm;obtain⟨rs',hm,rfl⟩:=hm;obtain⟨F,h1,h2,h3⟩:=wr_rel hi cs hvs hm;cases c with
   |d x=>
    simp only[wrCell,Option.some.injEq]at hy;subst hy;simp only[CR]at hv;refine⟨F,?_,by simpa [rowsOf] using h2,by simpa [rowsOf] using h3⟩;simp only[RVRs,RVR];exact⟨v,vs',[],F,rfl,rfl,⟨rfl,hv⟩,h1⟩
   |nil k fl=>
    simp only[wrCell,Option.some.injEq]at hy;subst hy;simp only[CR]at hv;refine⟨F,?_,by simpa [rowsOf] using h2,by simpa [rowsOf] using h3⟩;simp only[RVRs,RVR];exact⟨v,vs',[],F,rfl,rfl,⟨⟨none,0,0,hv.1,rfl,Nat.le_refl _,by simp[maxLen],hv.2,fun _ h=>by simp at h,fun _=>flat_nil,.inl ⟨rfl,rfl,rfl⟩⟩,by simp⟩,h1⟩
   |ref r=>
    simp only[wrCell,Option.map_eq_some_iff]at hy;obtain⟨x,hx,rfl⟩:=hy;simp only[CR]at hv;obtain⟨Fr,hR,hnd,hω⟩:=hi.rw r x hx;refine⟨Fr++F,?_,fun g hg=>?_,fun hn=>?_⟩
    ·simp only[RVRs,RVR];exact⟨v,vs',Fr,F,rfl,rfl,⟨by rw[hv.1];exact hR,hnd⟩,h1⟩
    ·rcases List.mem_append.1 hg with hg|hg
     ·exact⟨r,by simp[rowsOf],hω g hg⟩
     ·obtain⟨q,hq,hqω⟩:=h2 g hg;exact⟨q,by simp[rowsOf,hq],hqω⟩
    ·simp only[rowsOf,List.nodup_cons]at hn;rw[List.nodup_append];refine⟨hnd,h3 hn.2,?_⟩;intro a ha b hb e;subst e;obtain⟨q,hq,hqω⟩:=h2 a hb;rw[hω a ha]at hqω;cases hqω;exact hn.1 hq
   |_=>simp[wrCell]at hy
  ·cases hm
end
end
section
open Go.RowKit
section
variable {h0:Nat→Nat} {io:List Nat} {w0:World} {f:Fm} {w:World}
theorem setRow_drop(s:St)(r:Nat)(x:Row):(s.dropRow r).setRow r x=s.setRow r x:=by
 simp[St.setRow,St.dropRow,look_drop]
theorem Inv.share1 {γ : Gh} {s : St} (hi : Inv γ h0 io w0 s f w) {r : Nat} {x : Row} (hl : look s.rw r = some x) :
    ∃ γ' G, Inv γ' h0 io w0 (s.setRow r x.share) f w ∧ γ'.β = γ.β ∧ γ'.sl = γ.sl ∧ (∀ g, γ.h g ≤ γ'.h g) ∧ Rp w (.list x.k x.fl x.es) (γ.sl r) G ∧ Settled γ'.h G ∧ ∀ g, γ'.ω g = γ.ω g ∨ γ'.ω g = .lim ∨ γ'.ω g = .free ∨ γ'.ω g = .row r := by
  obtain ⟨γ2, A, n, c, i2, b2, sl2, hh2, o2, l2, q1, q2, q3, q4, q5, q6, q7, q8⟩ := hi.openRow hl
  have own2 : ∀ g, γ2.ω g = γ.ω g ∨ γ2.ω g = .lim := fun g => by
    rcases Decidable.em (γ.ω g = .row r) with h | h
    · exact .inr (l2 g h)
    · exact .inl (o2 g h)
  rcases q8 with ⟨rfl, rfl⟩ | ⟨g, o, xs, G, rfl, a2, a3, a4, a5, a6, a7, a8, a9, a10, a11, a12⟩
  · have hR : RowR γ2.h w x.share (γ2.sl r) [] := ⟨none, n, 0, by rw [sl2]; exact q1, q2, q3, q4, q5, q6, q7, .inl ⟨rfl, rfl, rfl⟩⟩
    obtain ⟨γ', h2, h3, h4, h5, h6⟩ := i2.setRow (r := r) hR (by simp) (fun _ h => by simp at h)
    rw [setRow_drop] at h2
    refine ⟨γ', [], h2, h4.trans b2, h3.trans sl2, fun g => by rw [h5, hh2]; exact Nat.le_refl _, ?_, fun _ h => by simp at h, fun g => ?_⟩
    · simp only [Rp]
      exact ⟨none, n, 0, q1, q2, q3, q4, q7, q5, q6, .inl ⟨by omega, trivial⟩⟩
    · rcases h6 g with h | h
      · rw [h]; rcases own2 g with h' | h'
        · exact .inl h'
        · exact .inr (.inl h')
      · exact .inr (.inr (.inr h))
  · have i3 := i2.settle (h' := fun y => if y = g then o + n * x.k else γ2.h y) (ω' := γ2.ω) (fun y => by
        split
        · rename_i e; subst e; rw [hh2]; exact a8
        · exact Nat.le_refl _)
      (fun y hy => by
        have e : y = g := by
          rcases Decidable.em (y = g) with h | h
          · exact h
          · exact absurd (by simp [h]) hy
        subst e
        have ho := i2.own y (by rw [a4]; simp)
        exact ⟨ho.1, ho.2, fun _ _ _ => by rw [a4]; simp, fun _ _ _ => by rw [a4]; simp⟩)
      (fun y => .inl rfl)
      (fun y b hy => by
        by_cases e : y = g
        · subst e; rw [a4] at hy; cases hy
        · simp only [if_neg e]; exact i2.hbox y b hy)
    have lim3 : ∀ y, y ≠ g → Lim γ2 w y → Lim { γ2 with h := fun y => if y = g then o + n * x.k else γ2.h y, ω := γ2.ω } w y := fun y hy hL => ⟨hL.1, by simp only [if_neg hy]; exact hL.2.1, hL.2.2⟩
    obtain ⟨γ4, i4, s4, b4, m4, g4, w4⟩ := i3.closeSame (r := r) (x := x.share) (n := n) (c := c) (g := g) (o := o) q2 q3 q4 q5 q6 q7 a2 (.inl a4) (i2.own g (by rw [a4]; simp)).2 a5 a6 a7 (by simp only [if_true]; exact Nat.le_refl _) (fun h => by cases h) a10
      (fun be hb => by
        rcases a11 be hb with h | ⟨h, hne⟩
        · by_cases e : be.1 = g
          · simp only [if_pos e]
            rw [e] at h
            exact .inl (Nat.le_trans h a8)
          · simp only [if_neg e]
            rw [hh2]; exact .inl h
        · exact .inr ⟨lim3 _ hne h, hne⟩)
      (fun hf => by
        have : G = [] := a6.plain (q7 hf)
        subst this
        simp)
      (by show γ2.sl r = _; rw [sl2]; exact q1)
    rw [setRow_drop] at i4
    have mono : ∀ y, γ.h y ≤ γ4.h y := fun y => by
      refine Nat.le_trans ?_ (m4 y)
      show γ.h y ≤ if y = g then o + n * x.k else γ2.h y
      split
      · rename_i e; subst e; exact a8
      · rw [hh2]; exact Nat.le_refl _
    have hgg : o + n * x.k ≤ γ4.h g := by
      have := m4 g
      simpa using this
    have hset : Settled γ4.h G := by
      cases hf : x.fl with
      | true =>
        have : G = [] := a6.plain (q7 hf)
        subst this
        exact fun _ h => by simp at h
      | false => exact g4 hf
    have own4 : ∀ g, γ4.ω g = γ.ω g ∨ γ4.ω g = .lim ∨ γ4.ω g = .free ∨ γ4.ω g = .row r := fun y => by
      rcases w4 y with h | h | h
      · rw [h]
        rcases own2 y with h' | h'
        · exact .inl h'
        · exact .inr (.inl h')
      · exact .inr (.inr (.inl h))
      · exact .inr (.inr (.inr h))
    by_cases hn : n = 0
    · refine ⟨γ4, [], i4, b4.trans b2, s4.trans sl2, mono, ?_, fun _ h => by simp at h, own4⟩
      simp only [Rp]
      exact ⟨_, n, c, q1, q2, q3, q4, q7, q5, q6, .inl ⟨hn, trivial⟩⟩
    · refine ⟨γ4, (g, o + n * x.k) :: G, i4, b4.trans b2, s4.trans sl2, mono, ?_, fun be hb => ?_, own4⟩
      · simp only [Rp]
        exact ⟨_, n, c, q1, q2, q3, q4, q7, q5, q6, .inr ⟨by omega, g, o, xs, G, rfl, rfl, a6, a7⟩⟩
      · rcases List.mem_cons.1 hb with rfl | hb
        · exact hgg
        · exact hset be hb
theorem look_setRow(s:St)(r q:Nat)(x:Row):look (s.setRow r x).rw q=if r=q then some x else look s.rw q:=by
 simp only[St.setRow,look,look_drp]
 split<;>rfl
theorem Inv.shareR:∀(rs:List Nat) {γ:Gh} {s:St},Inv γ h0 io w0 s f w→
  ∃γ',Inv γ' h0 io w0 (shareAll s rs) f w∧γ'.β=γ.β∧γ'.sl=γ.sl∧(∀g,γ.h g≤γ'.h g)∧(∀r∈rs,∀x,look s.rw r=some x→∃G,Rp w (.list x.k x.fl x.es) (γ.sl r) G∧Settled γ'.h G)∧
   (∀g,γ'.ω g=γ.ω g∨γ'.ω g=.lim∨γ'.ω g=.free∨∃r∈rs,γ'.ω g=.row r)∧(shareAll s rs).sl=s.sl∧(shareAll s rs).bx=s.bx∧∀q,q∉rs→look (shareAll s rs).rw q=look s.rw q
 |[],γ,s,hi=>⟨γ,hi,rfl,rfl,fun _=>Nat.le_refl _,fun _ h=>by simp at h,fun _=>.inl rfl,rfl,rfl,fun _ _=>rfl⟩
 |r::rs,γ,s,hi=>by
  cases hl:look s.rw r with
  |none=>
   obtain⟨γ',i1,b1,s1,m1,g1,w1,e1,e2,e3⟩:=Inv.shareR rs hi;have e0:shareAll s (r::rs)=shareAll s rs:=by simp[shareAll,hl]
   rw[e0];refine⟨γ',i1,b1,s1,m1,fun q hq x hx=>?_,fun g=>?_,e1,e2,fun q hq=>e3 q (fun h=>hq (by simp[h]))⟩
   ·rcases List.mem_cons.1 hq with rfl|hq
    ·rw[hl]at hx;cases hx
    ·exact g1 q hq x hx
   ·rcases w1 g with h|h|h|⟨q,hq,h⟩
    ·exact .inl h
    ·exact .inr (.inl h)
    ·exact .inr (.inr (.inl h))
    ·exact .inr (.inr (.inr ⟨q,by simp[hq],h⟩))
  |some x=>
   obtain⟨γ1,G,i1,b1,s1,m1,rp1,set1,w1⟩:=hi.share1 hl;obtain⟨γ2,i2,b2,s2,m2,g2,w2,e1,e2,e3⟩:=Inv.shareR rs i1;have e0:shareAll s (r::rs)=shareAll (s.setRow r x.share) rs:=by simp[shareAll,hl]
   rw[e0];refine⟨γ2,i2,b2.trans b1,s2.trans s1,fun g=>Nat.le_trans (m1 g) (m2 g),fun q hq y hy=>?_,fun g=>?_,e1,e2,fun q hq=>?_⟩
   ·by_cases hqr:q=r
    ·subst hqr;rw[hl]at hy;cases hy;exact⟨G,rp1,set1.mono m2⟩
    ·rcases List.mem_cons.1 hq with hq|hq
     ·exact absurd hq hqr
     ·obtain⟨G',h1,h2⟩:=g2 q hq y (by rw[look_setRow,if_neg (Ne.symm hqr)];exact hy);exact⟨G',by rw[← s1];exact h1,h2⟩
   ·rcases w2 g with h|h|h|⟨q,hq,h⟩
    ·rw[h];rcases w1 g with h'|h'|h'|h'
     ·exact .inl h'
     ·exact .inr (.inl h')
     ·exact .inr (.inr (.inl h'))
     ·exact .inr (.inr (.inr ⟨r,by simp,h'⟩))
    ·exact .inr (.inl h)
    ·exact .inr (.inr (.inl h))
    ·exact .inr (.inr (.inr ⟨q,by simp[hq],h⟩))
   ·simp only[List.mem_cons,not_or]at hq;rw[e3 q hq.2,look_setRow,if_neg (Ne.symm hq.1)]
theorem nodupB_iff:∀(l:List Nat),nodupB l=true↔l.Nodup
 |[]=>by simp[nodupB]
 |x::l=>by simp[nodupB,nodupB_iff l]
theorem wr_look{s S:St}:∀(cs:List C),(∀r∈rowsOf cs,look S.rw r=look s.rw r)→mapO (wrCell S) cs=mapO (wrCell s) cs
 |[],_=>rfl
 |c::cs,h=>by
  have ih:=wr_look (s:=s) (S:=S) cs (fun r hr=>h r (by cases c<;>simp[rowsOf,hr]));simp only[mapO,ih];cases c with
  |ref r=>simp only[wrCell,h r (by simp[rowsOf])]
  |_=>rfl
theorem wr_cell{s:St}:∀{cs:List C} {rs:List RV},mapO (wrCell s) cs=some rs→cs.all C.cell=true
 |[],_,_=>rfl
 |c::cs,rs,h=>by
  simp only[mapO]at h
  split at h
  ·rename_i y hy;simp only[Option.map_eq_some_iff]at h;obtain⟨rs',h,_⟩:=h;have ih:=wr_cell h;cases c<;>simp_all[wrCell,C.cell]
  ·cases h
theorem rd_cell{s:St}:∀{cs:List C} {rs:List RV},mapO (rdCell s) cs=some rs→cs.all C.cell=true
 |[],_,_=>rfl
 |c::cs,rs,h=>by
  simp only[mapO]at h
  split at h
  ·rename_i y hy;simp only[Option.map_eq_some_iff]at h;obtain⟨rs',h,_⟩:=h;have ih:=rd_cell h;cases c<;>simp_all[rdCell,C.cell]
  ·cases h
theorem rd_rel{γ γs:Gh}{s:St}{ln:List Nat}(hm:∀g,γ.h g≤γs.h g)(hG:∀r∈ln,∀x,look s.rw r=some x→∃G,Rp w (.list x.k x.fl x.es) (γ.sl r) G∧Settled γs.h G) :
  ∀(cs:List C) {vs:List Value} {rs:List RV},CRs γ w cs vs→mapO (rdCell s) cs=some rs→(∀r∈rowsOf cs,r∈ln)→RVRs γs.h w rs vs []
 |[],vs,rs,hc,h,_=>by
  simp only[mapO,Option.some.injEq]at h;subst h;simp only[CRs]at hc;simp[RVRs,hc]
 |c::cs,vs,rs,hc,h,hl=>by
  simp only[CRs]at hc;obtain⟨v,vs',rfl,hv,hvs⟩:=hc;simp only[mapO]at h
  split at h
  ·rename_i y hy;simp only[Option.map_eq_some_iff]at h;obtain⟨rs',h,rfl⟩:=h;have ih:=rd_rel hm hG cs hvs h (fun r hr=>hl r (by cases c<;>simp[rowsOf,hr]));simp only[RVRs];refine⟨v,vs',[],[],rfl,rfl,?_,ih⟩;cases c with
   |d x=>
    simp only[rdCell,Option.some.injEq]at hy;subst hy;simp only[CR]at hv;obtain⟨G,h1,h2⟩:=hv;exact⟨rfl,G,h1,h2.mono hm⟩
   |nil k fl=>
    simp only[rdCell,Option.some.injEq]at hy;subst hy;simp only[CR]at hv;refine⟨rfl,[],?_,fun _ h=>by simp at h⟩;simp only[Rp];exact⟨none,0,0,hv.1,rfl,Nat.le_refl _,by simp[maxLen],fun _=>flat_nil,hv.2,fun _ h=>by simp at h,.inl ⟨rfl,trivial⟩⟩
   |ref r=>
    simp only[rdCell,Option.map_eq_some_iff]at hy;obtain⟨x,hx,rfl⟩:=hy;simp only[CR]at hv;obtain⟨G,h1,h2⟩:=hG r (hl r (by simp[rowsOf])) x hx;exact⟨rfl,G,by rw[hv.1];exact h1,h2⟩
   |_=>simp[rdCell]at hy
  ·cases h
theorem args_rel{γ γs:Gh}{s S:St}{ln:List Nat}(hS:Inv γs h0 io w0 S f w)(hb:γs.β=γ.β)(hsl:γs.sl=γ.sl)(hm:∀g,γ.h g≤γs.h g)(hbx:S.bx=s.bx)(hG:∀r∈ln,∀x,look s.rw r=some x→∃G,Rp w (.list x.k x.fl x.es) (γ.sl r) G∧Settled γs.h G)
  (hlk:∀q,q∉ln→look S.rw q=look s.rw q):∀(cs:List C) {vs:List Value} {as:List A},CRs γ w cs vs→toAs s cs=some as→(∀r∈lentAll cs,r∈ln)→(∀r∈movedAll s cs,r∉ln)→(movedAll s cs).Nodup→(boxesOf cs).Nodup→
   ∃F,ARs γs.h w as vs F∧F.Nodup∧(∀g∈F,(∃r∈movedAll s cs,γs.ω g=.row r)∨∃b∈boxesOf cs,γs.ω g=.box b∧g=γs.β b)∧∀b∈boxesOf cs,Value.pointer (some ⟨γs.β b,0,none⟩)∈outVals as vs
 |[],vs,as,hc,h,_,_,_,_=>by
  simp only[toAs,Option.some.injEq]at h;subst h;simp only[CRs]at hc;exact⟨[],by simp[ARs,hc],by simp,fun _ h=>by simp at h,fun _ h=>by simp[boxesOf]at h⟩
 |c::cs,vs,as,hc,h,hl,hmv,hnm,hnb=>by
  simp only[CRs]at hc;obtain⟨v,vs',rfl,hv,hvs⟩:=hc;simp only[toAs]at h
  split at h
  ·rename_i a ha;simp only[Option.map_eq_some_iff]at h;obtain⟨as',h,rfl⟩:=h;simp only[lentAll,movedAll]at hl hmv hnm;rw[List.nodup_append]at hnm;obtain⟨hn1,hn2,hn3⟩:=hnm;have hnb2:(boxesOf cs).Nodup:=by
    cases c<;>simp_all[boxesOf]
   obtain⟨F2,r2,d2,l2,p2⟩:=args_rel hS hb hsl hm hbx hG hlk cs hvs h (fun r hr=>hl r (by simp[hr])) (fun r hr=>hmv r (by simp[hr])) hn2 hnb2;have hv':CR γs w c v:=hv.mono (γ':=γs) hm (fun _ _ _=>rfl) hb hsl c;unfold toA at ha
   split at ha
   ·rename_i b
    split at ha
    ·rename_i bcs hbl;simp only[Option.map_eq_some_iff]at ha;obtain⟨rs,hrs,rfl⟩:=ha;have hmo:moved s (.ptr b 0)=rowsOf bcs:=by simp[moved,hbl]
     rw[hmo]at hmv hn1 hn3;obtain⟨T,us,k1,k2,k3⟩:=hS.bx b bcs (by rw[hbx];exact hbl);rw[← wr_look (S:=S) _ (fun r hr=>hlk r (hmv r (by simp[hr])))]at hrs;obtain⟨F1,x1,x2,x3⟩:=wr_rel hS _ k2 hrs;simp only[CR]at hv';simp only[boxesOf,List.nodup_cons]at hnb;refine⟨(γs.β b::F1)++F2,?_,?_,fun g hg=>?_,fun b' hb'=>?_⟩
     ·simp only[ARs];refine⟨v,vs',γs.β b::F1,F2,rfl,rfl,?_,r2⟩;simp only[AR];exact⟨_,T,us,F1,hv',k1,hS.hbox _ b k3,rfl,x1⟩
     ·rw[List.nodup_append];refine⟨List.nodup_cons.2 ⟨fun hm=>?_,x3 hn1⟩,d2,?_⟩
      ·obtain⟨r,_,hr⟩:=x2 _ hm;rw[k3]at hr;cases hr
      ·intro x hx y hy e;subst e;rcases List.mem_cons.1 hx with rfl|hx
       ·rcases l2 _ hy with ⟨q,hq,h2⟩|⟨b',hb',h2,_⟩
        ·rw[k3]at h2;cases h2
        ·rw[k3]at h2;cases h2;exact hnb.1 hb'
       ·obtain⟨r,hr,h1⟩:=x2 x hx;rcases l2 x hy with ⟨q,hq,h2⟩|⟨b',hb',h2,_⟩
        ·rw[h1]at h2;cases h2;exact hn3 _ hr _ hq rfl
        ·rw[h1]at h2;cases h2
     ·rcases List.mem_append.1 hg with hg|hg
      ·rcases List.mem_cons.1 hg with rfl|hg
       ·exact .inr ⟨b,by simp[boxesOf],k3,rfl⟩
       ·obtain⟨r,hr,h1⟩:=x2 g hg;exact .inl ⟨r,by simp only[movedAll,List.mem_append,hmo];exact .inl hr,h1⟩
      ·rcases l2 g hg with ⟨r,hr,h1⟩|⟨b',hb',h1⟩
       ·exact .inl ⟨r,by simp only[movedAll,List.mem_append];exact .inr hr,h1⟩
       ·exact .inr ⟨b',by simp[boxesOf,hb'],h1⟩
     ·simp only[boxesOf,List.mem_cons]at hb';simp only[outVals,List.mem_cons];rcases hb' with rfl|hb'
      ·exact .inl hv'.symm
      ·exact .inr (p2 b' hb')
    ·cases ha
   ·rename_i hnp;simp only[Option.map_eq_some_iff]at ha;obtain⟨rs,hrs,rfl⟩:=ha;obtain⟨k1,k2,k3⟩:=hv.cells (rd_cell hrs);have x1:=rd_rel hm hG _ k1 hrs (fun r hr=>hl r (by simp[hr]));have hbo:boxesOf (c::cs)=boxesOf cs:=by
     have hcell:=rd_cell hrs;cases c<;>simp_all[boxesOf,C.cells,C.cell]
    refine⟨F2,?_,d2,fun g hg=>?_,fun b hb'=>?_⟩
    ·simp only[ARs];refine⟨v,vs',[],F2,rfl,rfl,?_,r2⟩;simp only[AR];refine⟨_,x1,fun hag=>?_,fun hag=>by rw[k2 hag]⟩;obtain⟨us,rfl⟩:=k3 hag;simp[Value.cells]
    ·rw[hbo];rcases l2 g hg with ⟨r,hr,h1⟩|h1
     ·exact .inl ⟨r,by simp only[movedAll,List.mem_append];exact .inr hr,h1⟩
     ·exact .inr h1
    ·rw[hbo]at hb';simp only[outVals];exact p2 b hb'
  ·cases h
theorem datC_rel{γ γ':Gh}{s:St}{rs:List Nat}(hm:∀g,γ.h g≤γ'.h g)(hb:γ'.β=γ.β)(hsl:γ'.sl=γ.sl)(hG:∀r∈rs,∀x,look s.rw r=some x→∃G,Rp w (.list x.k x.fl x.es) (γ.sl r) G∧Settled γ'.h G) :
  ∀{cs:List C} {vs:List Value},(∀r∈rowsOf cs,r∈rs)→CRs γ w cs vs→CRs γ' w (cs.map (datC s)) vs
 |[],vs,_,h=>by simpa only [List.map_nil,CRs] using h
 |c::cs,vs,hr,h=>by
  simp only[CRs]at h;obtain⟨v,vs',rfl,h1,h2⟩:=h;simp only[List.map_cons,CRs];refine⟨v,vs',rfl,?_,datC_rel hm hb hsl hG (fun r hx=>hr r (by cases c<;>simp_all[rowsOf])) h2⟩;have h1':CR γ' w c v:=CR.mono hm (fun _ _ _=>rfl) hb hsl c h1;cases c with
  |ref r=>
   simp only[datC];split
   ·rename_i x hx;obtain⟨G,g1,g2⟩:=hG r (hr r (by simp[rowsOf])) x hx;simp only[CR]at h1 ⊢;rw[h1.1];exact⟨G,g1,g2⟩
   ·exact h1'
  |_=>exact h1'
theorem Inv.datS{γ:Gh}{s s':St}{d:Nat}(hi:Inv γ h0 io w0 s f w)(hs:Proofs.YtcdjbelccndadaaGreatDoor.datS s d=some s'):∃γ',Inv γ' h0 io w0 s' f w∧γ'.β=γ.β:=by
 unfold Proofs.YtcdjbelccndadaaGreatDoor.datS at hs
 split at hs
 ·rename_i r hr
  split at hs
  ·rename_i x hx;cases hs;obtain⟨γ',i',b',s1,h1,g1,_⟩:=hi.shareR [r];obtain⟨G,hG,hS⟩:=g1 r (by simp) x hx;have hv:=hi.get d;rw[hr]at hv;simp only[CR]at hv;exact⟨γ',i'.put' d _ (by simp only[CR];rw[hv.1];exact⟨G,hG,hS⟩),b'⟩
  ·cases hs
 ·rename_i b hr
  split at hs
  ·rename_i cs hx;cases hs;obtain⟨T,vs,hB,hC,hω⟩:=hi.bx b cs hx;obtain⟨γ',i',b',s1,h1,g1,_,_,ebx,_⟩:=hi.shareR (rowsOf cs);obtain⟨T',vs',hB',hC',hω'⟩:=i'.bx b cs (by rw[ebx];exact hx);have hv:vs'=vs:=by
    rw[b']at hB';have he:=Option.some.inj (hB'.symm.trans hB)
    injection he with he
    simpa using congrArg Array.toList he
   exact⟨γ',i'.setBox hB' hω' (hv▸datC_rel h1 b' s1 g1 (fun r hr=>hr) hC),b'⟩
  ·cases hs;exact⟨γ,hi,rfl⟩
 ·cases hs;exact⟨γ,hi,rfl⟩
end
end
section
open Go.RowKit
section
variable {h0:Nat→Nat} {io:List Nat} {w0:World} {f:Fm} {w:World}
theorem Inv.after{γ:Gh}{s:St}(hi:Inv γ h0 io w0 s f w){h1 h':Nat→Nat}{F mv bs:List Nat}{w':World}(hch:Chg h1 F w w' h')(hm:∀g,γ.h g≤h1 g)(hlab:∀g∈F,(∃r∈mv,γ.ω g=.row r)∨∃b∈bs,γ.ω g=.box b)(hr:∀r∈mv,look s.rw r=none)(hb:∀b∈bs,look s.bx b=none)
  (hbz:∀g∈F,∀b,γ.ω g=.box b→h' g=0) :
  Adv γ (fun o=>(∃r∈mv,o=.row r)∨∃b∈bs,o=.box b) w w'∧
  ∃γ',Inv γ' h0 io w0 s f w'∧γ'.β=γ.β∧γ'.sl=γ.sl∧(∀g,γ.h g≤γ'.h g)∧(∀g,g < w.heap.size→g∉F→γ'.h g=γ.h g)∧(∀g,w.heap.size≤g∨g∈F→γ'.h g=h' g)∧(∀g∈F,(∃r∈mv,γ.ω g=.row r)→γ'.ω g=.lim)∧(∀g b,γ.ω g=.box b→γ'.ω g=.box b)∧(∀g,w.heap.size≤g→γ'.ω g=.free):=by
 have hFM:∀g∈F,(∃r∈mv,γ.ω g=.row r)∨∃b∈bs,γ.ω g=.box b:=hlab;have hadv:Adv γ (fun o=>(∃r∈mv,o=.row r)∨∃b∈bs,o=.box b) w w':={
  os:=hch.os,tape:=hch.tape,output:=hch.output,size:=hch.size
  block:=fun g hg hn=>hch.block g hg (fun hF=>hn (hFM g hF))
  cell:=fun g j hj=>by
   have hg:g < w.heap.size:=by
    rcases Nat.lt_or_ge g w.heap.size with h|h
    ·exact h
    ·have:=hi.hnew g h;omega
   exact hch.cell g j hg (Nat.lt_of_lt_of_le hj (hm g))
  kthaw:=hch.kthaw }
 have i1:=hi.adv hadv (by rintro (⟨r,_,h⟩|⟨b,_,h⟩)<;>cases h) (fun b h=>by
   rcases h with ⟨r,_,h⟩|⟨b',hb',h⟩
   ·cases h
   ·cases h;exact hb b hb') (fun r h=>by
   rcases h with ⟨r',hr',h⟩|⟨b',_,h⟩
   ·cases h;exact hr r hr'
   ·cases h)
 have dead:∀g∈F,(∀b cs,look s.bx b=some cs→γ.ω g≠.box b)∧∀r x,look s.rw r=some x→γ.ω g≠.row r:=by
  intro g hg;rcases hFM g hg with ⟨r,hr',h⟩|⟨b,hb',h⟩
  ·refine⟨fun b cs _=>by rw[h];simp,fun q x hq=>?_⟩;rw[h];intro e;cases e;rw[hr r hr']at hq;cases hq
  ·refine⟨fun b' cs hq=>?_,fun q x _=>by rw[h];simp⟩;rw[h];intro e;cases e;rw[hb b hb']at hq;cases hq
 refine⟨hadv,?_⟩;have i2:=i1.settle (h':=fun g=>if g < w.heap.size∧g∉F then γ.h g else h' g) (ω':=fun g=>match γ.ω g with | .row r=>if r∈mv∧g∈F then .lim else .row r|o=>o)
  (fun g=>by
   split
   ·exact Nat.le_refl _
   ·rename_i hn;rcases Nat.lt_or_ge g w.heap.size with h|h
    ·exact Nat.le_trans (hm g) (hch.mono g h)
    ·rw[hi.hnew g h];omega)
  (fun g hg=>by
   by_cases hc:g < w.heap.size∧g∉F
   ·simp[hc]at hg
   ·simp only[if_neg hc]at hg;rcases Nat.lt_or_ge g w.heap.size with h|h
    ·have hF:g∈F:=by
      rcases Decidable.em (g∈F) with h2|h2
      ·exact h2
      ·exact absurd ⟨h,h2⟩ hc
     have hne:γ.ω g≠.free:=by rcases hFM g hF with ⟨r,_,h⟩|⟨b,_,h⟩<;>rw[h]<;>simp
     exact⟨Nat.lt_of_lt_of_le h hch.size,(hi.own g hne).2,dead g hF⟩
    ·have hlt:g < w'.heap.size:=by
      rcases Nat.lt_or_ge g w'.heap.size with h2|h2
      ·exact h2
      ·exact absurd (by rw[hch.hnew g h2,hi.hnew g h]) hg
     have hfr:=hi.ω_new h;exact⟨hlt,.inl (Nat.le_trans hi.size h),fun _ _ _=>by rw[hfr];simp,fun _ _ _=>by rw[hfr];simp⟩)
  (fun g=>by
   cases ho:γ.ω g with
   |row r=>
    simp only
    by_cases hc:r∈mv∧g∈F
    ·rw[if_pos hc];have:=dead g hc.2;rw[ho]at this;exact .inr ⟨.inr rfl,by simp,this⟩
    ·rw[if_neg hc];exact .inl rfl
   |_=>exact .inl rfl)
  (fun g b hg=>by
   have ho:γ.ω g=.box b:=by
    cases ho:γ.ω g with
    |row r=>
     rw[ho]at hg;simp only at hg
     split at hg<;>cases hg
    |free=>rw[ho]at hg;cases hg
    |lim=>rw[ho]at hg;cases hg
    |box b'=>rw[ho]at hg;exact hg
   by_cases hc:g < w.heap.size∧g∉F
   ·simp only[if_pos hc];exact hi.hbox g b ho
   ·simp only[if_neg hc];rcases Nat.lt_or_ge g w.heap.size with h|h
    ·have hF:g∈F:=by
      rcases Decidable.em (g∈F) with h2|h2
      ·exact h2
      ·exact absurd ⟨h,h2⟩ hc
     exact hbz g hF b ho
    ·rw[hi.ω_new h]at ho;cases ho)
 refine⟨_,i2,rfl,rfl,fun g=>?_,fun g h1 h2=>by simp[h1,h2],fun g hg=>?_,fun g hg ⟨r,hr',h⟩=>by simp[h,hr',hg],fun g b h=>by simp[h],fun g hg=>by simp[hi.ω_new hg]⟩
 ·dsimp only;split
  ·exact Nat.le_refl _
  ·rcases Nat.lt_or_ge g w.heap.size with h|h
   ·exact Nat.le_trans (hm g) (hch.mono g h)
   ·rw[hi.hnew g h];omega
 ·have hc:¬(g < w.heap.size∧g∉F):=by
   rintro⟨h1,h2⟩
   rcases hg with h|h
   ·omega
   ·exact h2 h
  simp only[if_neg hc]
theorem RowR.re{h h2:Nat→Nat}{x:Row}{v:Value}{F:List Nat}(hr:RowR h w x v F)(hF:∀g∈F,h2 g=h g)(hc:x.deep=true∨∀g,h g≤h2 g):RowR h2 w x v F:=by
 obtain⟨A,n,c,q1,q2,q3,q4,q5,q6,q7,q8⟩:=hr;refine⟨A,n,c,q1,q2,q3,q4,q5,q6,q7,?_⟩;rcases q8 with q8|⟨g,o,xs,G,a1,a2,a3,a4,a5,a6,a7,a8,a9,a10⟩
 ·exact .inl q8
 ·have hg:g∈F:=by
   cases hd:x.deep with
   |true=>rw[(a9 hd).1];simp
   |false=>rw[(a10 hd).1];simp
  refine .inr ⟨g,o,xs,G,a1,a2,a3,a4,a5,by rw[hF g hg];exact a6,fun hz=>by rw[hF g hg];exact a7 hz,a8,fun hd=>⟨(a9 hd).1,fun be hb=>?_⟩,fun hd=>⟨(a10 hd).1,?_⟩⟩
  ·have hm:be.1∈F:=by rw[(a9 hd).1];simp;exact .inr ⟨be.2,hb⟩
   rw[hF _ hm];exact (a9 hd).2 be hb
  ·rcases hc with hc|hc
   ·rw[hd]at hc;cases hc
   ·exact (a10 hd).2.mono hc
theorem RVRs.re{h h2:Nat→Nat}:∀{rs:List RV} {vs:List Value} {F:List Nat},RVRs h w rs vs F→(∀g∈F,h2 g=h g)→(rs.all RV.closed=true∨∀g,h g≤h2 g)→RVRs h2 w rs vs F
 |[],_,_,hr,_,_=>by simpa only [RVRs] using hr
 | .d x::rs,_,_,hr,hF,hc=>by
  simp only[RVRs,RVR]at hr ⊢;obtain⟨v,vs',F1,F2,rfl,rfl,⟨rfl,G,h3,h4⟩,h5⟩:=hr;refine⟨v,vs',[],F2,rfl,rfl,⟨rfl,G,h3,?_⟩,RVRs.re h5 (by simpa using hF) (hc.imp (fun h=>by simp at h ⊢;exact h.2) id)⟩;rcases hc with hc|hc
  ·simp only[List.all_cons,Bool.and_eq_true,RV.closed]at hc;have:RpC w [x] [v] G:=by simp only[RpC];exact⟨v,[],G,[],rfl,by simp,h3,rfl,rfl⟩
   have hG:G=[]:=this.plain (by simp[hc.1]);subst hG;exact fun _ h=>by simp at h
  ·exact h4.mono hc
 | .row x::rs,_,_,hr,hF,hc=>by
  simp only[RVRs,RVR]at hr ⊢;obtain⟨v,vs',F1,F2,rfl,rfl,⟨h3,h4⟩,h5⟩:=hr;refine⟨v,vs',F1,F2,rfl,rfl,⟨h3.re (fun g hg=>hF g (by simp[hg])) (hc.imp (fun h=>by simp[RV.closed]at h;exact h.1) id),h4⟩,RVRs.re h5 (fun g hg=>hF g (by simp[hg])) (hc.imp (fun h=>by simp at h ⊢;exact h.2) id)⟩
theorem ARs.re{h h2:Nat→Nat}:∀{rs:List A} {vs:List Value} {F:List Nat},ARs h w rs vs F→(∀g∈F,h2 g=h g)→(rs.all A.closed=true∨∀g,h g≤h2 g)→ARs h2 w rs vs F
 |[],_,_,hr,_,_=>by simpa only [ARs] using hr
 | .val ag cs::rs,_,_,hr,hF,hc=>by
  simp only[ARs,AR]at hr ⊢;obtain⟨v,vs',F1,F2,rfl,rfl,⟨us,h3,h4⟩,h5⟩:=hr;exact⟨v,vs',F1,F2,rfl,rfl,⟨us,h3.re (fun g hg=>hF g (by simp[hg])) (hc.imp (fun h=>by simp only[List.all_cons,Bool.and_eq_true,A.closed]at h;exact h.1) id),h4⟩,ARs.re h5 (fun g hg=>hF g (by simp[hg])) (hc.imp (fun h=>by simp only[List.all_cons,Bool.and_eq_true]at h;exact h.2) id)⟩
 | .box cs::rs,_,_,hr,hF,hc=>by
  simp only[ARs,AR]at hr ⊢;obtain⟨v,vs',F1,F2,rfl,rfl,⟨g,T,us,F',h1,h2',h3,rfl,h4⟩,h5⟩:=hr;refine⟨v,vs',g::F',F2,rfl,rfl,⟨g,T,us,F',h1,h2',by rw[hF g (by simp)];exact h3,rfl,h4.re (fun y hy=>hF y (by simp[hy])) (hc.imp (fun h=>by simp only[List.all_cons,Bool.and_eq_true,A.closed]at h;exact h.1) id)⟩,ARs.re h5 (fun g hg=>hF g (by simp[hg])) (hc.imp (fun h=>by simp only[List.all_cons,Bool.and_eq_true]at h;exact h.2) id)⟩
theorem AR.ptr{h:Nat→Nat}{a:A}{g:Nat}{F:List Nat}(hr:AR h w a (.pointer (some ⟨g,0,none⟩)) F):(∃cs,a=.box cs)∧h g=0∧g∈F:=by
 cases a with
 |val ag cs=>
  simp only[AR]at hr;obtain⟨us,h1,h2,h3⟩:=hr;cases ag with
  |true=>cases h2 rfl
  |false=>
   have:=h3 rfl;subst this;cases cs with
   |nil=>simp[RVRs]at h1
   |cons r rs=>
    simp only[RVRs]at h1;obtain⟨v,vs',F1,F2,e,_,h4,_⟩:=h1;simp only[List.cons.injEq]at e;rw[← e.1]at h4;cases r with
    |d x=>
     obtain⟨_,G,h5,_⟩:=h4;have:=h5.isOne;cases x<;>simp[Rp]at h5
    |row x=>
     obtain⟨A,n,c,h6⟩:=h4.1.slice;cases h6
 |box cs=>
  simp only[AR]at hr;obtain⟨g',T,us,F',e,_,h3,rfl,_⟩:=hr;simp only[Value.pointer.injEq,Option.some.injEq,Addr.mk.injEq,and_true]at e;subst e;exact⟨⟨cs,rfl⟩,h3,by simp⟩
theorem ARs.ptr{h:Nat→Nat}:∀{as:List A} {vs:List Value} {F:List Nat},ARs h w as vs F→∀g,Value.pointer (some ⟨g,0,none⟩)∈vs→h g=0∧g∈F
 |[],_,_,hr,g,hg=>by simp only[ARs]at hr;rw[hr.1]at hg;simp at hg
 |a::as,_,_,hr,g,hg=>by
  simp only[ARs]at hr;obtain⟨v,vs',F1,F2,rfl,rfl,h1,h2⟩:=hr;rcases List.mem_cons.1 hg with rfl|hg
  ·obtain⟨_,h3,h4⟩:=h1.ptr;exact⟨h3,by simp[h4]⟩
  ·obtain⟨h3,h4⟩:=ARs.ptr h2 g hg;exact⟨h3,by simp[h4]⟩
def PtrOk(β:Nat→Nat):List C→List Value→Prop
 |[],vs=>vs=[]
 |c::cs,vs=>∃v vs',vs=v::vs'∧(∀b,c=.ptr b 0→v=.pointer (some ⟨β b,0,none⟩))∧PtrOk β cs vs'
theorem CRs.ptrs{γ:Gh}:∀{cs:List C} {vs:List Value},CRs γ w cs vs→PtrOk γ.β cs vs
 |[],_,h=>by simpa only [CRs,PtrOk] using h
 |c::cs,_,h=>by
  simp only[CRs]at h;obtain⟨v,vs',rfl,h1,h2⟩:=h;simp only[PtrOk];exact⟨v,vs',rfl,fun b e=>by subst e;simpa only [CR] using h1,CRs.ptrs h2⟩
theorem wback_rel:∀(cs:List C) {as outs:List A} {vs:List Value} {F:List Nat} {γ:Gh} {s s':St},Inv γ h0 io w0 s f w→PtrOk γ.β cs vs→toAs s' cs=some as→ARs γ.h w outs (outVals as vs) F→F.Nodup→(∀g∈F,(γ.ω g=.free∨γ.ω g=.lim∨Value.pointer (some ⟨g,0,none⟩)∈outVals as vs)∧g < w.heap.size∧(w0.heap.size≤g∨g∈io))→
  (∀b∈boxesOf cs,γ.ω (γ.β b)=.box b)→∃γ',Inv γ' h0 io w0 (wback s cs outs) f w∧γ'.β=γ.β∧γ'.h=γ.h∧∀g,g∉F→γ'.ω g=γ.ω g
 |[],as,outs,vs,F,γ,s,s',hi,_,_,_,_,_,_=>⟨γ,by simpa [wback] using hi,rfl,rfl,fun _ _=>rfl⟩
 |c::cs,as,outs,vs,F,γ,s,s',hi,hc,ha,hr,hnd,hF,hbo=>by
  simp only[PtrOk]at hc;obtain⟨v,vs',rfl,hv,hvs⟩:=hc;simp only[toAs]at ha
  split at ha
  ·rename_i a haa;simp only[Option.map_eq_some_iff]at ha;obtain⟨as',ha,rfl⟩:=ha;by_cases hp:∃b,c=.ptr b 0
   ·obtain⟨b,rfl⟩:=hp;have hbox:∃rs,a=.box rs:=by
     simp only[toA]at haa
     split at haa
     ·simp only[Option.map_eq_some_iff]at haa;obtain⟨rs,_,rfl⟩:=haa;exact⟨rs,rfl⟩
     ·cases haa
    obtain⟨rs,rfl⟩:=hbox;simp only[outVals]at hr hF;have hv:=hv b rfl;cases outs with
    |nil=>simp[ARs]at hr
    |cons o outs=>
     simp only[ARs]at hr;obtain⟨v0,ovs,F1,F2,e,rfl,h1,h2⟩:=hr;simp only[List.cons.injEq]at e;obtain⟨rfl,rfl⟩:=e;rw[hv]at h1;obtain⟨⟨bcs,rfl⟩,hz,hgm⟩:=h1.ptr;simp only[AR]at h1;obtain⟨g,T,us,F',e,hB,hg0,rfl,hrs⟩:=h1;simp only[Value.pointer.injEq,Option.some.injEq,Addr.mk.injEq,and_true]at e;subst e;rw[List.nodup_append]at hnd;obtain⟨hn1,hn2,hdis⟩:=hnd;obtain⟨hg1,hn1'⟩:=List.nodup_cons.1 hn1;have good:∀g∈F',γ.ω g=.free∨γ.ω g=.lim:=by
      intro g hg;rcases (hF g (by simp[hg])).1 with h|h|h
      ·exact .inl h
      ·exact .inr h
      ·exfalso
       rcases List.mem_cons.1 h with h|h
       ·rw[hv]at h;simp only[Value.pointer.injEq,Option.some.injEq,Addr.mk.injEq,and_true]at h;exact hg1 (h▸hg)
       ·have:=(ARs.ptr h2 g h).2;exact hdis g (by simp[hg]) g this rfl
     obtain⟨γ1,i1,c1,b1,h1',o1,s1⟩:=inCells_rel (d:=b+500) bcs 0 hi hrs hn1' (fun g hg=>⟨good g hg,(hF g (by simp[hg])).2⟩);have hωb:γ1.ω (γ1.β b)=.box b:=by
      rw[b1,o1 _ hg1];exact hbo b (by simp[boxesOf])
     have i2:=i1.setBox (b:=b) (by rw[b1];exact hB) hωb c1;have mem2:∀g,g∈F2→g∉F':=fun g hg h=>hdis g (by simp[h]) g hg rfl;obtain⟨γ2,i3,b3,h3,o3⟩:=wback_rel cs (as:=as') (outs:=outs) (vs:=vs') (F:=F2) i2 (by rw[b1];exact hvs) ha (by rw[h1'];exact h2) hn2 (fun g hg=>by
      obtain⟨k1,k2⟩:=hF g (by simp[hg]);refine⟨?_,k2⟩;rw[o1 g (mem2 g hg)];rcases k1 with h|h|h
      ·exact .inl h
      ·exact .inr (.inl h)
      ·rcases List.mem_cons.1 h with h|h
       ·exfalso
        rw[hv]at h;simp only[Value.pointer.injEq,Option.some.injEq,Addr.mk.injEq,and_true]at h;exact hdis g (by simp[h]) g hg rfl
       ·exact .inr (.inr h)) (fun b' hb'=>by
      have hb2:=hbo b' (by simp[boxesOf,hb']);rw[b1,o1]
      ·exact hb2
      ·intro hm;rcases good _ hm with h|h<;>rw[hb2]at h<;>cases h)
     refine⟨γ2,by simpa [wback] using i3,b3.trans b1,h3.trans h1',fun g hg=>?_⟩;simp only[List.mem_append,List.mem_cons,not_or]at hg;rw[o3 g hg.2,o1 g hg.1.2]
   ·have hval:∃ag rs,a=.val ag rs:=by
     unfold toA at haa
     split at haa
     ·rename_i b;exact absurd ⟨b,rfl⟩ hp
     ·simp only[Option.map_eq_some_iff]at haa;obtain⟨rs,_,rfl⟩:=haa;exact⟨_,rs,rfl⟩
    obtain⟨ag,rs,rfl⟩:=hval;simp only[outVals]at hr hF;have e:wback s (c::cs) outs=wback s cs outs:=by
     cases c with
     |ptr b o=>
      cases o with
      |zero=>exact absurd ⟨b,rfl⟩ hp
      |succ o=>simp[wback]
     |_=>simp[wback]
    rw[e];exact wback_rel cs hi hvs ha hr hnd hF (fun b hb=>hbo b (by cases c<;>simp[boxesOf,hb]))
  ·cases ha
theorem resCells_rel{d:Nat}:∀(rs:List A) {us:List Value} {F:List Nat} (q:Nat) {γ:Gh} {s:St},Inv γ h0 io w0 s f w→ARs γ.h w rs us F→F.Nodup→(∀g∈F,(γ.ω g=.free∨γ.ω g=.lim)∧g < w.heap.size∧(w0.heap.size≤g∨g∈io))→(∀a∈rs,∃ag cs,a=.val ag cs∧cs.length≤30)→
  ∃γ',Inv γ' h0 io w0 (resCells d q rs s).2 f w∧CRs γ' w (resCells d q rs s).1 us∧γ'.β=γ.β∧γ'.h=γ.h∧∀r,(∀i,30 * q≤i→r≠rid d i)→γ'.sl r=γ.sl r
 |[],us,F,q,γ,s,hi,hr,_,_,_=>by
  simp only[ARs]at hr;obtain⟨rfl,rfl⟩:=hr;exact⟨γ,by simpa [resCells] using hi,by simp[resCells,CRs],rfl,rfl,fun _ _=>rfl⟩
 |a::rs,us,F,q,γ,s,hi,hr,hnd,hF,hv=>by
  obtain⟨ag,cs,rfl,hlen⟩:=hv a (by simp);simp only[ARs,AR]at hr;obtain⟨v,vs',F1,F2,rfl,rfl,⟨ws,h3,h4,h5⟩,h6⟩:=hr;rw[List.nodup_append]at hnd;obtain⟨hn1,hn2,hdis⟩:=hnd;have hwl:=h3.length;obtain⟨γ1,i1,c1,b1,e1,o1,s1⟩:=inCells_rel2 (d:=d) cs (30 * q) hi h3 hn1 (fun g hg=>hF g (by simp[hg]));obtain⟨γ2,i2,c2,b2,e2,s2⟩:=resCells_rel rs (q+1) i1 (by rw[e1];exact h6) hn2 (fun g hg=>by
   rw[o1 g (fun h=>hdis g h g hg rfl)];exact hF g (by simp[hg])) (fun a ha=>hv a (by simp[ha]))
  have c1':CRs γ2 w (inCells d (30 * q) cs s).1 ws:=by
   refine c1 γ2 (by rw[e2]) (fun j hj1 hj2=>s2 _ (fun i hi=>rid_ne (by omega)))
  refine⟨γ2,i2,?_,b2.trans b1,e2.trans e1,fun r hr=>?_⟩
  ·simp only[resCells,CRs];refine⟨v,vs',rfl,?_,c2⟩;cases ag with
   |true=>
    rw[h4 rfl];simp only[if_true,CR];exact⟨ws,rfl,c1'⟩
   |false=>
    simp only[Bool.false_eq_true,if_false];have:=h5 rfl;subst this;exact headD_rel c1'
  ·rw[s2 r (fun i hi=>hr i (by omega)),s1 r (fun i hi=>hr i hi)]
end
end
end Go.Proofs.YtcdjbelccndadaaGreatDoor
