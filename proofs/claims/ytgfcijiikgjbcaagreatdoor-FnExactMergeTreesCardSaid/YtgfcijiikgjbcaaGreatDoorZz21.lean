/- Part of the proof: a machine over plain data, its proof, the functions of the program run on symbols, what they answer. Condition: none. -/
import Derived.Test.YtgfcijiikgjbcaaGreatDoorZz16
import Derived.Test.YtgfcijiikgjbcaaGreatDoorZz20
set_option linter.unusedVariables false
set_option linter.unusedSimpArgs false
set_option linter.unusedSectionVars false
open List renaming length_map->aA,map_cons->aZ,map_nil->cj
open List.cons renaming sizeOf_spec->bG
open Nat renaming lt_succ_self->aS
open Option renaming map_some->aQ,some->Z
open Option.some renaming injEq->aa
open Prod.mk renaming injEq->aC
open SizeOf renaming sizeOf->aw
namespace Go.Proofs.YtgfcijiikgjbcaaGreatDoor
section
open Go.RowKit
theorem pI{i f:Nat}{d e:M D}{j:Nat}{l:M A}{v:M SA×M SA}{r:M A×M A}(h:GF T xf i d=Z (j,e))(c:Y9 i d=Z l)(a:(look xf i).map (λs=>(s.f,nth s.res j))=Z (f,Z v))(n:yL v e=Z r) :
  ej T f l=Z r:=by
 cases b:look xf i with
 |none=>rw[b]at a;cases a
 |some m=>
  obtain⟨x,w,t,q,p,k,o⟩:=GA T xf i m b _ _ _ h;simp only[Y9,b]at c;rw[q]at c;cases c;rw[b,aQ,aa,aC]at a;obtain⟨rfl,g⟩:=a;rw[p]at g;cases g;rw[n]at k;cases k;exact o
theorem S7{B a:Nat}(i:a<=67108864)(hB:a<=B)(m:Nat):∀v:M aE,aw v < m->bW bl v<=a->eJ B 2 (v.map bl):=by
 induction m with
 |zero=>intro v h;omega
 |succ m b=>
  intro v d c;cases v with
  |nil=>simp only[cj,eJ]
  |cons x v=>
   rw[eS,ij]at c;have g:=aE.er x;simp only[bG]at d;have f:=b x.ae (by omega) (by omega);have e:=b v (by omega) (by omega);simp only[aZ,eJ,aV x,lay,fL,Ok];simp only[bW]at c;exact⟨⟨by simp only[maxLen];omega,by simp only[maxLen];omega,⟨rfl,rfl,by rw[aA];omega,f⟩,trivial⟩,e⟩
theorem QV{B a:Nat}(v:M aE)(c:a<=67108864)(hB:a<=B)(b:bW bl v<=a):eJ B 2 (v.map bl):=S7 c hB _ v (aS _) b
end
end Go.Proofs.YtgfcijiikgjbcaaGreatDoor
