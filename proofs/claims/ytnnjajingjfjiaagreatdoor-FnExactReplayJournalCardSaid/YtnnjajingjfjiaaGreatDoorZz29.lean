/- Part of the proof: a machine over plain data, its proof, the functions of the program run on symbols, what they answer. Condition: none. -/
import Derived.Test.YtnnjajingjfjiaaGreatDoorZz17
import Derived.Test.YtnnjajingjfjiaaGreatDoorZz28
set_option linter.unusedVariables false
set_option linter.unusedSimpArgs false
set_option linter.unusedSectionVars false
open List renaming length_map->ay,map_cons->aW,map_nil->bD
open List.cons renaming sizeOf_spec->bJ
open Nat renaming lt_succ_self->aP
open Option renaming map_some->aQ,some->Z
open Option.some renaming injEq->ae
open Prod.mk renaming injEq->aI
open SizeOf renaming sizeOf->aw
namespace Go.Proofs.YtnnjajingjfjiaaGreatDoor
section
open Go.RowKit
theorem nA{i f:Nat}{d e:M D}{j:Nat}{l:M A}{v:M SA×M SA}{r:M A×M A}(h:GF T qq i d=Z (j,e))(c:abc i d=Z l)(a:(look qq i).map (λs=>(s.f,nth s.res j))=Z (f,Z v))(n:Ad v e=Z r) :
  dM T f l=Z r:=by
 cases b:look qq i with
 |none=>rw[b]at a;cases a
 |some m=>
  obtain⟨x,w,t,q,p,k,o⟩:=Ih T qq i m b _ _ _ h;simp only[abc,b]at c;rw[q]at c;cases c;rw[b,aQ,ae,aI]at a;obtain⟨rfl,g⟩:=a;rw[p]at g;cases g;rw[n]at k;cases k;exact o
theorem VM{B a:Nat}(i:a<=67108864)(hB:a<=B)(m:Nat):∀v:M az,aw v < m->bK aU v<=a->dw B 2 (v.map aU):=by
 induction m with
 |zero=>intro v h;omega
 |succ m b=>
  intro v d c;cases v with
  |nil=>simp only[bD,dw]
  |cons x v=>
   rw[er,fF]at c;have g:=az.dL x;simp only[bJ]at d;have f:=b x.aa (by omega) (by omega);have e:=b v (by omega) (by omega);simp only[aW,dw,aN x,lay,eu,Ok];simp only[bK]at c;exact⟨⟨by simp only[maxLen];omega,by simp only[maxLen];omega,⟨rfl,rfl,by rw[ay];omega,f⟩,trivial⟩,e⟩
theorem TU{B a:Nat}(v:M az)(c:a<=67108864)(hB:a<=B)(b:bK aU v<=a):dw B 2 (v.map aU):=VM c hB _ v (aP _) b
end
end Go.Proofs.YtnnjajingjfjiaaGreatDoor
