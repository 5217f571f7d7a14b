/- Part of the proof: a machine over plain data, its proof, the functions of the program run on symbols, what they answer. Condition: none. -/
import Derived.Test.YthlpjklbafakfaaGreatDoorZz16
import Derived.Test.YthlpjklbafakfaaGreatDoorZz20
set_option linter.unusedVariables false
set_option linter.unusedSimpArgs false
set_option linter.unusedSectionVars false
open List renaming length_map->aj,map_cons->aW,map_nil->cE
open List.cons renaming sizeOf_spec->bo
open Nat renaming lt_succ_self->aY
open SizeOf renaming sizeOf->av
open Option renaming some->Z
namespace Go.Proofs.YthlpjklbafakfaaGreatDoor
section
open Go.RowKit
theorem SZ{B a:Nat}(i:a<=67108864)(hB:a<=B)(m:Nat):∀v:M aD,av v < m->bQ bp v<=a->hO B 2 (v.map bp):=by
 induction m with
 |zero=>intro v h;omega
 |succ m b=>
  intro v d c;cases v with
  |nil=>simp only[cE,hO]
  |cons x v=>
   rw[fJ,jJ]at c;have g:=aD.ek x;simp only[bo]at d;have f:=b x.ae (by omega) (by omega);have e:=b v (by omega) (by omega);simp only[aW,hO,aT x,lay,gX,Ok];simp only[bQ]at c;exact⟨⟨by simp only[maxLen];omega,by simp only[maxLen];omega,⟨rfl,rfl,by rw[aj];omega,f⟩,trivial⟩,e⟩
theorem aam{B Z:Nat}(v:M aD)(b:Z<=67108864)(hB:Z<=B)(a:bQ bp v<=Z):hO B 2 (v.map bp):=SZ b hB _ v (aY _) a
end
end Go.Proofs.YthlpjklbafakfaaGreatDoor
