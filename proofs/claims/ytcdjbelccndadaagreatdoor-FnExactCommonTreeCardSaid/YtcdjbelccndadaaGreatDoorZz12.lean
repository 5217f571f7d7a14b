/- Part of the proof: a machine over plain data, its proof, the functions of the program run on symbols, what they answer. Condition: none. -/
import Derived.Test.YtcdjbelccndadaaGreatDoorZz08
import Derived.Test.YtcdjbelccndadaaGreatDoorZz11
set_option linter.unusedVariables false
set_option linter.unusedSimpArgs false
open List renaming length_map->av,map_cons->aN,map_nil->dD
open List.cons renaming sizeOf_spec->bB
open Nat renaming lt_succ_self->aM
open Option renaming map_some->aB
open Option.some renaming injEq->aa
open Prod.mk renaming injEq->ao
open SizeOf renaming sizeOf->ah
namespace Go.Proofs.YtcdjbelccndadaaGreatDoor
section
open Go.RowKit
theorem yA{i f:Nat}{ws us:List D}{j:Nat}{ag:List A}{v:List SA×List SA}{r:List A×List A}(h:GF T GJ i ws=some (j,us))(he:TQ i ws=some ag)(hr:(look GJ i).map (λs=>(s.f,nth s.res j))=some (f,some v))(hv:u5 v us=some r) :
  dd T f ag=some r:=by
 cases hl:look GJ i with
 |none=>rw[hl]at hr;cases hr
 |some sg=>
  obtain⟨ar,r',v',e1,e2,e3,e4⟩:=CD T GJ i sg hl _ _ _ h;simp only[TQ,hl]at he;rw[e1]at he;cases he;rw[hl,aB,aa,ao]at hr;obtain⟨rfl,h2⟩:=hr;rw[e2]at h2;cases h2;rw[hv]at e3;cases e3;exact e4
theorem Oj{B:Nat}(hB:1048576<=B)(m:Nat):∀v:List aJ,ah v < m->cA bD v<=1048576->eh B 2 (v.map bD):=by
 induction m with
 |zero=>intro v h;omega
 |succ m ih=>
  intro v hm hz;cases v with
  |nil=>simp only[dD,eh]
  |cons x v=>
   rw[lD,jL]at hz;have hx:=aJ.fq x;simp only[bB]at hm;have h1:=ih x.kids (by omega) (by omega);have h2:=ih v (by omega) (by omega);simp only[aN,eh,aP x,lay,eO,Ok];simp only[cA]at hz;exact⟨⟨by simp only[maxLen];omega,by simp only[maxLen];omega,⟨rfl,rfl,by rw[av];omega,h1⟩,trivial⟩,h2⟩
theorem U2{B:Nat}(v:List aJ)(hB:1048576<=B)(hz:cA bD v<=1048576):eh B 2 (v.map bD):=Oj hB _ v (aM _) hz
end
end Go.Proofs.YtcdjbelccndadaaGreatDoor
