/- Part of the proof: a machine over plain data, its proof, the functions of the program run on symbols, what they answer. Condition: none. -/
import Derived.Test.YtcdjbelccndadaaGreatDoorZy08
import Derived.Test.YtcdjbelccndadaaGreatDoorZy11
set_option linter.unusedVariables false
set_option linter.unusedSimpArgs false
open List renaming length_map->au,map_cons->aQ,map_nil->dB
open List.cons renaming sizeOf_spec->bB
open Nat renaming lt_succ_self->aO
open Option renaming map_some->aD
open Option.some renaming injEq->aa
open Prod.mk renaming injEq->ak
open SizeOf renaming sizeOf->ah
namespace Go.Proofs.YtcdjbelccndadaaGreatDoor
section
open Go.RowKit
theorem uk{i f:Nat}{ws us:List D}{j:Nat}{ag:List A}{v:List SA×List SA}{r:List A×List A}(h:GF T GB i ws=some (j,us))(he:Ub i ws=some ag)(hr:(look GB i).map (λs=>(s.f,nth s.res j))=some (f,some v))(hv:u5 v us=some r) :
  db T f ag=some r:=by
 cases hl:look GB i with
 |none=>rw[hl]at hr;cases hr
 |some sg=>
  obtain⟨ar,r',v',e1,e2,e3,e4⟩:=Cw T GB i sg hl _ _ _ h;simp only[Ub,hl]at he;rw[e1]at he;cases he;rw[hl,aD,aa,ak]at hr;obtain⟨rfl,h2⟩:=hr;rw[e2]at h2;cases h2;rw[hv]at e3;cases e3;exact e4
theorem Ot{B:Nat}(hB:1048576<=B)(m:Nat):∀v:List aR,ah v < m->cD bI v<=1048576->dL B 2 (v.map bI):=by
 induction m with
 |zero=>intro v h;omega
 |succ m ih=>
  intro v hm hz;cases v with
  |nil=>simp only[dB,dL]
  |cons x v=>
   rw[lC,jL]at hz;have hx:=aR.fv x;simp only[bB]at hm;have h1:=ih x.kids (by omega) (by omega);have h2:=ih v (by omega) (by omega);simp only[aQ,dL,bu x,lay,eE,Ok];simp only[cD]at hz;exact⟨⟨by simp only[maxLen];omega,by simp only[maxLen];omega,⟨rfl,rfl,by rw[au];omega,h1⟩,trivial⟩,h2⟩
theorem Vi{B:Nat}(v:List aR)(hB:1048576<=B)(hz:cD bI v<=1048576):dL B 2 (v.map bI):=Ot hB _ v (aO _) hz
end
end Go.Proofs.YtcdjbelccndadaaGreatDoor
