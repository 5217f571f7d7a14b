/- Part of the proof: a machine over plain data, its proof, the functions of the program run on symbols, what they answer. Condition: none. -/
import Derived.Test.YtcdjbelccndadaaGreatDoorZy05
import Derived.Test.YtcdjbelccndadaaGreatDoorZy15
set_option linter.unusedVariables false
set_option linter.unusedSimpArgs false
open List renaming forall_mem_cons->bW,mem_cons_of_mem->cz,mem_cons_self->eu
open Nat renaming eq_of_beq_eq_true->mU
namespace Go.Proofs.YtcdjbelccndadaaGreatDoor
set_option maxRecDepth 100000
section
theorem bn{f:Nat}{l:List Nat}(h:OkQ f)(hl:∀g∈l,OkQ g):∀g∈f::l,OkQ g:=bW.2 ⟨h,hl⟩
theorem acz:∀f∈fs,OkQ f:=
 bn (bo s3 rfl) <|bn (bo s4 rfl) <|bn (bo s5 rfl) <|bn (bo s6 rfl) <|bn (bo s9 rfl) <|bn (bo s10 rfl) <|bn (bo s39 rfl) <|bn (bo s45 rfl) <|bn (bo s46 rfl) <|bn (bo s47 rfl) <|bn (bo s48 rfl) <|bn (bo s49 rfl) <|bn (bo s50 rfl) <|bn (bo s51 rfl) <|bn (bo s52 rfl) <|bn (bo s53 rfl) <|bn (bo s54 rfl) <|bn (bo TN rfl) <|bn (bo s56 rfl) <|bn (bo s57 rfl) <|bn (bo s58 rfl) <|bn (bo s59 rfl) <|bn (bo s60 rfl) <|bn (bo s61 rfl) <|bn (bo s62 rfl) <|bn (bo s63 rfl) <|bn (bo s64 rfl) <|bn (bo s65 rfl) <|bn (bo s66 rfl) <|bn (bo s67 rfl) <|bn (bo s68 rfl) <|bn (bo s69 rfl) <|bn (bo s70 rfl) <|bn (bo s71 rfl) <|bn (bo s72 rfl) <|bn (bo s73 rfl) <|bn (bo s74 rfl) <|bn (bo s75 rfl) <|bn (bo s76 rfl) <|bn (bo s77 rfl) <|bn (bo s78 rfl) <|bn (bo s79 rfl) <|bn (bo s80 rfl) <|bn (bo s81 rfl) <|bn (bo s82 rfl) <|bn (bo s83 rfl) <|bn (bo s84 rfl) <|bn (bo s85 rfl) <|bn (bo s86 rfl) <|bn (bo s92 rfl) <|bn (bo s93 rfl) <|bn (bo s94 rfl) <|bn (bo s95 rfl) <|bn (bo s96 rfl) <|bn (bo s97 rfl) <|bn (bo s98 rfl) <|bn (bo s99 rfl) <|bn (bo adE rfl) <|bn (bo adF rfl) <|bn (bo adG rfl) <|bn (bo adH rfl) <|bn (bo adI rfl) <|bn (bo adJ rfl) <|bn (bo adK rfl) <|bn (bo adL rfl) <|bn (bo adM rfl) <|bn (bo adN rfl) <|bn (bo adO rfl) <|bn (bo adP rfl) <|bn (bo adQ rfl) <|bn (bo adR rfl) <|bn (bo adS rfl) <|bn (bo adT rfl) <|bn (bo adU rfl) <|bn (bo adV rfl) <|bn (bo adW rfl) <|bn (bo adX rfl) <|bn (bo adY rfl) <|bn (bo adZ rfl) <|bn (bo ad0 rfl) <|bn (bo ad1 rfl) <|bn (bo ad2 rfl) <|bn (bo ad3 rfl) <|bn (bo ad4 rfl) <|bn (bo ad5 rfl) <|bn (bo ad6 rfl) <|bn (bo ad7 rfl) <|bn (bo ad8 rfl) <|bn (bo ad9 rfl) <|bn (bo ad_ rfl) <|bn (bo VB rfl) <|bn (bo aea rfl) <|bn (bo aeb rfl) <|bn (bo aec rfl) <|bn (bo VC rfl) <|bn (bo aed rfl) <|bn (bo BB rfl) <|bn (bo ZN rfl) <|bn (bo aee rfl) <|bn (bo ZO rfl) <|bn (bo Sl rfl) <|bn (bo aef rfl) <|bn (bo aeg rfl) <|bn (bo aeh rfl) <|bn (bo aei rfl) <|bn (bo aej rfl) <|bn (bo aek rfl) <|bn (bo ael rfl) <|bn (bo aem rfl) <|bn (bo aen rfl) <|bn (bo aeo rfl) <|bn (bo aep rfl) <|bn (bo aeq rfl) <|bn (bo aer rfl) <|bn (bo aes rfl) <|bn (bo aet rfl) <|bn (bo aeu rfl) <|bn (bo aev rfl) <|bn (bo aew rfl) <|bn (bo aex rfl) <|bn (bo aey rfl) <|bn (bo aez rfl) <|bn (bo aeA rfl) <|bn (bo aeB rfl) <|bn (bo aeC rfl) <|bn (bo aeD rfl) <|bn (bo aeE rfl) <|bn (bo aeF rfl) <|bn (bo aeG rfl) <|bn (bo aeH rfl) <|bn (bo aeI rfl) <|bn (bo aeJ rfl) <|bn (bo aeK rfl) <|bn (bo aeL rfl) <|bn (bo aeM rfl) <|bn (bo aeN rfl) <|bn (bo aeO rfl) <|bn (bo aeP rfl) <|bn (bo aeQ rfl) <|bn (bo aeR rfl) <|bn (bo aeS rfl) <|bn (bo aeT rfl) <|bn (bo aeU rfl) <|bn (bo aeV rfl) <|bn (bo aeW rfl) <|bn (bo ZP rfl) <|bn (bo aeX rfl) <|bn (bo ZQ rfl) <|bn (bo ZR rfl) <|bn (bo aeY rfl) <|bn (bo xp rfl) <|bn (bo VD rfl) <|bn (bo Sm rfl) <|bn (bo aeZ rfl) <|bn (bo ae0 rfl) <|bn (bo ae1 rfl) <|bn (bo ae2 rfl) <|bn (bo ae3 rfl) <|bn (bo ae4 rfl) <|bn (bo ae5 rfl) <|bn (bo ae6 rfl) <|bn (bo ae7 rfl) <|bn (bo ae8 rfl) <|bn (bo ae9 rfl) <|bn (bo ae_ rfl) <|bn (bo afa rfl) <|bn (bo afb rfl) <|bn (bo afc rfl) <|bn (bo afd rfl) <|bn (bo afe rfl) <|bn (bo aff rfl) <|bn (bo afg rfl) <|bn (bo afh rfl) <|bn (bo afi rfl) <|bn (bo afj rfl) <|bn (bo afk rfl) <|bn (bo afl rfl) <|bn (bo afm rfl) <|bn (bo afn rfl) <|bn (bo afo rfl) <|bn (bo afp rfl) <|λ_ h=>by cases h
theorem ahi:∀p∈VW,Pe Tryz.prog num p.1 p.2:=by
 unfold VW;refine bW.2 ⟨.of acs rfl,?_⟩;refine bW.2 ⟨.of acu rfl,?_⟩;refine bW.2 ⟨.of ahe rfl,?_⟩;refine bW.2 ⟨.of ahf rfl,?_⟩;refine bW.2 ⟨.of ahg rfl,?_⟩;refine bW.2 ⟨.of acm rfl,?_⟩;refine bW.2 ⟨.of acn rfl,?_⟩;refine bW.2 ⟨.of aco rfl,?_⟩;refine bW.2 ⟨.of acp rfl,?_⟩;refine bW.2 ⟨.of acq rfl,?_⟩;refine bW.2 ⟨.of acr rfl,?_⟩;refine bW.2 ⟨.of acw rfl,?_⟩;refine bW.2 ⟨.ext x9001,?_⟩;refine bW.2 ⟨.ext x9002,?_⟩;refine bW.2 ⟨.ext x9003,?_⟩;exact λ_ h=>by cases h
theorem LP{d:Nat}:∀{l:List Nat},wJ d l=true->d∈l
 |[],h=>by cases h
 |e::l,h=>by
  simp only[wJ]at h
  split at h
  ·rename_i he;rw[mU he];exact eu
  ·exact cz _ (LP h)
theorem acy(f:Nat)(kf:KF)(h:T f=some kf):Pe Tryz.prog num f kf:=by
 have h0:=h;unfold T at h
 split at h
 ·rename_i k hk;cases h;exact ahi (f,_) (HW VW hk)
 ·split at h
  ·rename_i hi;exact acz f (LP hi) kf h0
  ·cases h
theorem ahh:num 9004≠1000000->rn Tryz.prog (num 9004):=λ_=>x9004
end
end Go.Proofs.YtcdjbelccndadaaGreatDoor
