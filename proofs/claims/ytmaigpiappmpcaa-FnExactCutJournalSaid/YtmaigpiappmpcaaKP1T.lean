/-
  The table of the functions. Printed by a program of our own.
-/
import Derived.Test.YtmaigpiappmpcaaKP1a
import Derived.Test.YtmaigpiappmpcaaKEv
namespace Go.Proofs.Ytmaigpiappmpcaa
open Go.RowKit
set_option maxRecDepth 100000

def tab : List (Nat × KF) := [(3, k3), (4, k4), (26, k26), (27, k27), (28, k28), (29, k29), (30, k30), (5, k5), (6, k6), (31, k31), (32, k32), (33, k33), (34, k34), (35, k35), (2, k2), (36, k36), (37, k37), (38, k38), (39, k39), (40, k40), (1, k1), (41, k41), (42, k42), (43, k43), (9, k9), (10, k10), (11, k11), (12, k12), (13, k13), (14, k14), (15, k15), (16, k16), (17, k17), (18, k18), (19, k19), (20, k20), (21, k21), (22, k22), (23, k23), (24, k24), (44, k44)]
def T : Nat → Option KF := look tab
theorem okL : ∀ p ∈ tab, okF Try.prog num p.1 p.2 = true := by
  unfold tab
  refine List.forall_mem_cons.2 ⟨ok3, ?_⟩
  refine List.forall_mem_cons.2 ⟨ok4, ?_⟩
  refine List.forall_mem_cons.2 ⟨ok26, ?_⟩
  refine List.forall_mem_cons.2 ⟨ok27, ?_⟩
  refine List.forall_mem_cons.2 ⟨ok28, ?_⟩
  refine List.forall_mem_cons.2 ⟨ok29, ?_⟩
  refine List.forall_mem_cons.2 ⟨ok30, ?_⟩
  refine List.forall_mem_cons.2 ⟨ok5, ?_⟩
  refine List.forall_mem_cons.2 ⟨ok6, ?_⟩
  refine List.forall_mem_cons.2 ⟨ok31, ?_⟩
  refine List.forall_mem_cons.2 ⟨ok32, ?_⟩
  refine List.forall_mem_cons.2 ⟨ok33, ?_⟩
  refine List.forall_mem_cons.2 ⟨ok34, ?_⟩
  refine List.forall_mem_cons.2 ⟨ok35, ?_⟩
  refine List.forall_mem_cons.2 ⟨ok2, ?_⟩
  refine List.forall_mem_cons.2 ⟨ok36, ?_⟩
  refine List.forall_mem_cons.2 ⟨ok37, ?_⟩
  refine List.forall_mem_cons.2 ⟨ok38, ?_⟩
  refine List.forall_mem_cons.2 ⟨ok39, ?_⟩
  refine List.forall_mem_cons.2 ⟨ok40, ?_⟩
  refine List.forall_mem_cons.2 ⟨ok1, ?_⟩
  refine List.forall_mem_cons.2 ⟨ok41, ?_⟩
  refine List.forall_mem_cons.2 ⟨ok42, ?_⟩
  refine List.forall_mem_cons.2 ⟨ok43, ?_⟩
  refine List.forall_mem_cons.2 ⟨ok9, ?_⟩
  refine List.forall_mem_cons.2 ⟨ok10, ?_⟩
  refine List.forall_mem_cons.2 ⟨ok11, ?_⟩
  refine List.forall_mem_cons.2 ⟨ok12, ?_⟩
  refine List.forall_mem_cons.2 ⟨ok13, ?_⟩
  refine List.forall_mem_cons.2 ⟨ok14, ?_⟩
  refine List.forall_mem_cons.2 ⟨ok15, ?_⟩
  refine List.forall_mem_cons.2 ⟨ok16, ?_⟩
  refine List.forall_mem_cons.2 ⟨ok17, ?_⟩
  refine List.forall_mem_cons.2 ⟨ok18, ?_⟩
  refine List.forall_mem_cons.2 ⟨ok19, ?_⟩
  refine List.forall_mem_cons.2 ⟨ok20, ?_⟩
  refine List.forall_mem_cons.2 ⟨ok21, ?_⟩
  refine List.forall_mem_cons.2 ⟨ok22, ?_⟩
  refine List.forall_mem_cons.2 ⟨ok23, ?_⟩
  refine List.forall_mem_cons.2 ⟨ok24, ?_⟩
  refine List.forall_mem_cons.2 ⟨ok44, ?_⟩
  exact fun _ h => by cases h
theorem okT (f : Nat) (kf : KF) (h : T f = some kf) : okF Try.prog num f kf = true := okL (f, kf) (look_mem tab h)
theorem sound (n f : Nat) (args rs outs : List A) (h : evF T n f args = some (rs, outs)) : CallOk Try.prog (num f) args rs outs := evF_sound (by kernel_rfl) okT n f args rs outs h

end Go.Proofs.Ytmaigpiappmpcaa
