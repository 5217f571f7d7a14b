/- Part of the proof: a machine over plain data, its proof, the functions of the program run on symbols, what they answer. Condition: none. -/
import Derived.Test.YthlpjklbafakfaaGreatDoorZz24
set_option linter.unusedVariables false
set_option linter.unusedSimpArgs false
open Bool renaming and_eq_true->af,true->I,false->J
open List renaming mem_cons_self->aU,mem_cons_of_mem->bk,getElem_of_mem->zH
open Nat renaming le_refl->au,le_trans->aL,lt_succ_self->aY
open SizeOf renaming sizeOf->av
open Option renaming some->Z
open Decidable renaming decide->Z'
namespace Go.Proofs.YthlpjklbafakfaaGreatDoor
set_option maxRecDepth 100000
set_option maxHeartbeats 4000000
section
theorem F9{B:Nat}{e:M D}(b:gX B (lay 16) e):∃v,e=[.int .u8 v]/\(0<=v/\v<=255):=by
 obtain⟨x,f,rfl,d,c⟩:=gX.cons_inv (ts:=[]) (t:=.byte) b;obtain⟨v,rfl,a⟩:=d.rI;rw[c.jF];exact⟨v,rfl,a⟩
theorem HE:∀{es:M (M D)},(∀e∈es,∃v,e=[D.int .u8 v]/\(0<=v/\v<=255))->nG es=0
 |[],_=>rfl
 |e::es,h=>by
  obtain⟨v,rfl,_⟩:=h _ aU;rw[nG,HE λx a=>h x (bk _ a)];rfl
theorem XO{B:Nat}{es:M (M D)}(b:hO B 16 es):nG es=0:=by
 refine HE λe f=>?_;obtain⟨i,a⟩:=zH f;obtain⟨d,a⟩:=a;have c:nth es i=Z e:=by rw[<- a];exact dV d
 exact F9 (b.WA c)
theorem ajf{code:M (M D)}(a:code.length<=maxLen):G 385 [.list 1 I code]=Z (0,[.bool (Z' ((4096:Int) < (code.length:Int)))]):=by
 refine dd aj5 rfl ?_;simp only[go_sem,aj5]
theorem ana{code:M (M D)}(d:hO maxLen 16 code):∃v,G 436 [.list 1 I code,.int .i64 1]=Z (0,[.int .i64 v])/\(0<=v/\v<=255):=by
 by_cases g:1 < code.length
 ·obtain⟨e,c⟩:∃e,nth code 1=Z e:=⟨_,dV g⟩
  obtain⟨v,rfl,f⟩:=F9 (d.WA c);have i:IntKind.i64.wrap v=v:=wrap_i64 (by omega);have b:(1:Int) < (code.length:Int):=by omega
  have a:¬(code.length:Int)<=1:=by omega
  have h:aK (.el 1) [.list 1 I code,.int .i64 1]=Z (.list 0 J [[.int .u8 v]]):=by
   rw[Qw _ _ _ 1 (by decide)];show (nth code 1).map _=_;rw[c];rfl
  refine⟨v,dd abl rfl ?_,f⟩;simp only[go_sem,abl,b,a,h,i]
 ·have b:¬(1:Int) < (code.length:Int):=by omega
  have a:(code.length:Int)<=1:=by omega
  refine⟨0,dd abl rfl ?_,by omega⟩;simp only[go_sem,abl,b,a]
theorem ajn{code:M (M D)}(a:hO maxLen 16 code):∃v,G 436 [.list 1 I code,.int .i64 1]=Z (0,[.int .i64 v])/\aK (.bin .rem) [.int .i64 v,.int .i64 2]=Z (.int .i64 (v % 2)):=by
 obtain⟨v,c,b⟩:=ana a;exact⟨v,c,WW b.1 (by omega)⟩
theorem TB{rs:M l6}{gs:M z}{s:M ah}{l:M aD}(a:yM s l=I) :
  ∃v,sr rs gs s l=(v,I)/\sr rs gs s v=(v,I)/\Iz s v l=I/\bQ bp v<=bQ bp l:=by
 have e:=vP a;have b:tR jX uf s=I/\ez l<=120:=by
  unfold yM s6 at a;simp only[af,decide_eq_true_eq]at a;exact⟨a.1,a.2.1⟩
 have d:VS jX uf s:=by
  have:=b.1;unfold tR at this;simp only[af]at this;exact⟨_,_,_,_,this.2⟩
 obtain⟨a1,a2,a3⟩:=abq (rs:=rs) (gs:=gs) (av l+1) s l [] (aY _) d e;have c:yM s (gp rs gs (av l+1) s l [])=I:=by
  unfold yM s6;simp only[af,decide_eq_true_eq];exact⟨b.1,aL a2 b.2,aby a1 (au _)⟩
 obtain⟨g,f⟩:=a3 _ (aY _);refine⟨_,by unfold sr;rw[if_pos a],?_,?_,abr _⟩
 ·unfold sr;rw[if_pos c,g]
 ·unfold Iz;rw[c,a,f];rfl
end
end Go.Proofs.YthlpjklbafakfaaGreatDoor
