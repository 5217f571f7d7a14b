/- Part of the proof: a machine over plain data, its proof, the functions of the program run on symbols, what they answer. Condition: none. -/
import Derived.Test.YtcdjbelccndadaaGreatDoorZz05
import Derived.Test.YtcdjbelccndadaaGreatDoorZz15
set_option linter.unusedVariables false
set_option linter.unusedSimpArgs false
open List renaming forall_mem_cons->cm,mem_cons_of_mem->cp,mem_cons_self->dQ
open Nat renaming eq_of_beq_eq_true->mY
namespace Go.Proofs.YtcdjbelccndadaaGreatDoor
set_option maxRecDepth 100000
section
theorem bu{f:Nat}{l:List Nat}(h:OkQ f)(hl:∀g∈l,OkQ g):∀g∈f::l,OkQ g:=cm.2 ⟨h,hl⟩
theorem acp:∀f∈fs,OkQ f:=
 bu (bw s3 rfl) <|bu (bw s4 rfl) <|bu (bw s5 rfl) <|bu (bw s6 rfl) <|bu (bw s9 rfl) <|bu (bw s10 rfl) <|bu (bw s39 rfl) <|bu (bw s45 rfl) <|bu (bw s46 rfl) <|bu (bw s47 rfl) <|bu (bw s48 rfl) <|bu (bw s49 rfl) <|bu (bw s50 rfl) <|bu (bw s51 rfl) <|bu (bw s52 rfl) <|bu (bw s53 rfl) <|bu (bw s54 rfl) <|bu (bw Tu rfl) <|bu (bw s56 rfl) <|bu (bw s59 rfl) <|bu (bw s60 rfl) <|bu (bw s61 rfl) <|bu (bw s62 rfl) <|bu (bw s63 rfl) <|bu (bw s64 rfl) <|bu (bw s65 rfl) <|bu (bw s66 rfl) <|bu (bw s67 rfl) <|bu (bw s68 rfl) <|bu (bw s69 rfl) <|bu (bw s70 rfl) <|bu (bw s71 rfl) <|bu (bw s74 rfl) <|bu (bw s75 rfl) <|bu (bw s76 rfl) <|bu (bw s77 rfl) <|bu (bw s78 rfl) <|bu (bw s79 rfl) <|bu (bw s80 rfl) <|bu (bw s81 rfl) <|bu (bw s82 rfl) <|bu (bw s92 rfl) <|bu (bw s93 rfl) <|bu (bw s94 rfl) <|bu (bw s95 rfl) <|bu (bw s96 rfl) <|bu (bw s97 rfl) <|bu (bw s99 rfl) <|bu (bw adr rfl) <|bu (bw ads rfl) <|bu (bw adt rfl) <|bu (bw adu rfl) <|bu (bw adw rfl) <|bu (bw adx rfl) <|bu (bw ady rfl) <|bu (bw adz rfl) <|bu (bw adA rfl) <|bu (bw adB rfl) <|bu (bw adC rfl) <|bu (bw adD rfl) <|bu (bw adE rfl) <|bu (bw adF rfl) <|bu (bw adG rfl) <|bu (bw adH rfl) <|bu (bw adI rfl) <|bu (bw adJ rfl) <|bu (bw adK rfl) <|bu (bw adL rfl) <|bu (bw adM rfl) <|bu (bw adN rfl) <|bu (bw adO rfl) <|bu (bw adP rfl) <|bu (bw adQ rfl) <|bu (bw adR rfl) <|bu (bw adS rfl) <|bu (bw adT rfl) <|bu (bw adU rfl) <|bu (bw Vn rfl) <|bu (bw adV rfl) <|bu (bw adW rfl) <|bu (bw adX rfl) <|bu (bw Vo rfl) <|bu (bw adY rfl) <|bu (bw BJ rfl) <|bu (bw Zw rfl) <|bu (bw adZ rfl) <|bu (bw Zx rfl) <|bu (bw R_ rfl) <|bu (bw ad0 rfl) <|bu (bw ad1 rfl) <|bu (bw ad2 rfl) <|bu (bw ad3 rfl) <|bu (bw ad4 rfl) <|bu (bw ad5 rfl) <|bu (bw ad6 rfl) <|bu (bw ad7 rfl) <|bu (bw ad8 rfl) <|bu (bw ad9 rfl) <|bu (bw ad_ rfl) <|bu (bw aea rfl) <|bu (bw aeb rfl) <|bu (bw aec rfl) <|bu (bw aed rfl) <|bu (bw aee rfl) <|bu (bw aef rfl) <|bu (bw aeg rfl) <|bu (bw aeh rfl) <|bu (bw aei rfl) <|bu (bw aej rfl) <|bu (bw aek rfl) <|bu (bw ael rfl) <|bu (bw aem rfl) <|bu (bw aen rfl) <|bu (bw aeo rfl) <|bu (bw aep rfl) <|bu (bw aeq rfl) <|bu (bw aer rfl) <|bu (bw aes rfl) <|bu (bw aet rfl) <|bu (bw aeu rfl) <|bu (bw aev rfl) <|bu (bw aew rfl) <|bu (bw aex rfl) <|bu (bw aey rfl) <|bu (bw aez rfl) <|bu (bw aeA rfl) <|bu (bw aeB rfl) <|bu (bw aeC rfl) <|bu (bw aeD rfl) <|bu (bw aeE rfl) <|bu (bw aeF rfl) <|bu (bw aeG rfl) <|bu (bw aeH rfl) <|bu (bw aeI rfl) <|bu (bw Zy rfl) <|bu (bw aeJ rfl) <|bu (bw Zz rfl) <|bu (bw ZA rfl) <|bu (bw aeK rfl) <|bu (bw xw rfl) <|bu (bw Vp rfl) <|bu (bw Sa rfl) <|bu (bw aeL rfl) <|bu (bw aeM rfl) <|bu (bw aeN rfl) <|bu (bw aeO rfl) <|bu (bw aeP rfl) <|bu (bw aeQ rfl) <|bu (bw aeR rfl) <|bu (bw aeS rfl) <|bu (bw aeT rfl) <|bu (bw aeU rfl) <|bu (bw aeV rfl) <|bu (bw aeW rfl) <|bu (bw aeX rfl) <|bu (bw aeY rfl) <|bu (bw aeZ rfl) <|bu (bw ae0 rfl) <|bu (bw ae1 rfl) <|bu (bw ae2 rfl) <|bu (bw ae3 rfl) <|bu (bw ae4 rfl) <|bu (bw ae5 rfl) <|bu (bw ae6 rfl) <|bu (bw ae7 rfl) <|bu (bw ae8 rfl) <|bu (bw ae9 rfl) <|bu (bw ae_ rfl) <|bu (bw afa rfl) <|bu (bw afb rfl) <|bu (bw afc rfl) <|λ_ h=>by cases h
theorem ag7:∀p∈VJ,O_ Tryz.prog num p.1 p.2:=by
 unfold VJ;refine cm.2 ⟨.of acj rfl,?_⟩;refine cm.2 ⟨.of ack rfl,?_⟩;refine cm.2 ⟨.of ag3 rfl,?_⟩;refine cm.2 ⟨.of ag4 rfl,?_⟩;refine cm.2 ⟨.of ag5 rfl,?_⟩;refine cm.2 ⟨.of acd rfl,?_⟩;refine cm.2 ⟨.of ace rfl,?_⟩;refine cm.2 ⟨.of acf rfl,?_⟩;refine cm.2 ⟨.of acg rfl,?_⟩;refine cm.2 ⟨.of ach rfl,?_⟩;refine cm.2 ⟨.of aci rfl,?_⟩;refine cm.2 ⟨.ext x9001,?_⟩;refine cm.2 ⟨.ext x9002,?_⟩;refine cm.2 ⟨.ext x9003,?_⟩;exact λ_ h=>by cases h
theorem LU{d:Nat}:∀{l:List Nat},wK d l=true->d∈l
 |[],h=>by cases h
 |e::l,h=>by
  simp only[wK]at h
  split at h
  ·rename_i he;rw[mY he];exact dQ
  ·exact cp _ (LU h)
theorem aco(f:Nat)(kf:KF)(h:T f=some kf):O_ Tryz.prog num f kf:=by
 have h0:=h;unfold T at h
 split at h
 ·rename_i k hk;cases h;exact ag7 (f,_) (H_ VJ hk)
 ·split at h
  ·rename_i hi;exact acp f (LU hi) kf h0
  ·cases h
theorem ag6:num 9004≠1000000->ry Tryz.prog (num 9004):=λ_=>x9004
end
end Go.Proofs.YtcdjbelccndadaaGreatDoor
