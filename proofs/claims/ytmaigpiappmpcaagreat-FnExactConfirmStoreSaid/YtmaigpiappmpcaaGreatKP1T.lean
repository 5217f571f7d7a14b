/-
  The table of the functions. Printed by a program of our own.
-/
import Derived.Test.YtmaigpiappmpcaaGreatKP1a
import Derived.Test.YtmaigpiappmpcaaGreatKEv
namespace Go.Proofs.YtmaigpiappmpcaaGreat
open Go.RowKit
set_option maxRecDepth 100000

def tab : List (Nat × KF) := [(45, k45), (46, k46), (47, k47), (48, k48), (49, k49), (50, k50), (51, k51), (52, k52), (53, k53), (54, k54), (55, k55), (56, k56), (3, k3), (4, k4), (124, k124), (125, k125), (126, k126), (127, k127), (59, k59), (60, k60), (61, k61), (62, k62), (63, k63), (64, k64), (65, k65), (66, k66), (67, k67), (68, k68), (69, k69), (70, k70), (71, k71), (5, k5), (6, k6), (128, k128), (129, k129), (130, k130), (131, k131), (2, k2), (76, k76), (77, k77), (78, k78), (80, k80), (79, k79), (132, k132), (133, k133), (186, k186), (194, k194), (195, k195), (196, k196), (135, k135), (136, k136), (137, k137), (138, k138), (139, k139), (140, k140), (141, k141), (1, k1), (142, k142), (188, k188), (197, k197), (198, k198), (199, k199), (108, k108), (109, k109), (110, k110), (111, k111), (112, k112), (113, k113), (114, k114), (115, k115), (116, k116), (117, k117), (118, k118), (119, k119), (120, k120), (9, k9), (10, k10), (144, k144), (145, k145), (146, k146), (147, k147), (16, k16), (148, k148), (149, k149), (150, k150), (151, k151), (152, k152), (153, k153), (17, k17), (154, k154), (155, k155), (156, k156), (157, k157), (158, k158), (159, k159), (160, k160), (161, k161), (162, k162), (21, k21), (163, k163), (164, k164), (165, k165), (200, k200)]
def T : Nat → Option KF := look tab
theorem okL : ∀ p ∈ tab, okF Tryz.prog num p.1 p.2 = true := by
  unfold tab
  refine List.forall_mem_cons.2 ⟨ok45, ?_⟩
  refine List.forall_mem_cons.2 ⟨ok46, ?_⟩
  refine List.forall_mem_cons.2 ⟨ok47, ?_⟩
  refine List.forall_mem_cons.2 ⟨ok48, ?_⟩
  refine List.forall_mem_cons.2 ⟨ok49, ?_⟩
  refine List.forall_mem_cons.2 ⟨ok50, ?_⟩
  refine List.forall_mem_cons.2 ⟨ok51, ?_⟩
  refine List.forall_mem_cons.2 ⟨ok52, ?_⟩
  refine List.forall_mem_cons.2 ⟨ok53, ?_⟩
  refine List.forall_mem_cons.2 ⟨ok54, ?_⟩
  refine List.forall_mem_cons.2 ⟨ok55, ?_⟩
  refine List.forall_mem_cons.2 ⟨ok56, ?_⟩
  refine List.forall_mem_cons.2 ⟨ok3, ?_⟩
  refine List.forall_mem_cons.2 ⟨ok4, ?_⟩
  refine List.forall_mem_cons.2 ⟨ok124, ?_⟩
  refine List.forall_mem_cons.2 ⟨ok125, ?_⟩
  refine List.forall_mem_cons.2 ⟨ok126, ?_⟩
  refine List.forall_mem_cons.2 ⟨ok127, ?_⟩
  refine List.forall_mem_cons.2 ⟨ok59, ?_⟩
  refine List.forall_mem_cons.2 ⟨ok60, ?_⟩
  refine List.forall_mem_cons.2 ⟨ok61, ?_⟩
  refine List.forall_mem_cons.2 ⟨ok62, ?_⟩
  refine List.forall_mem_cons.2 ⟨ok63, ?_⟩
  refine List.forall_mem_cons.2 ⟨ok64, ?_⟩
  refine List.forall_mem_cons.2 ⟨ok65, ?_⟩
  refine List.forall_mem_cons.2 ⟨ok66, ?_⟩
  refine List.forall_mem_cons.2 ⟨ok67, ?_⟩
  refine List.forall_mem_cons.2 ⟨ok68, ?_⟩
  refine List.forall_mem_cons.2 ⟨ok69, ?_⟩
  refine List.forall_mem_cons.2 ⟨ok70, ?_⟩
  refine List.forall_mem_cons.2 ⟨ok71, ?_⟩
  refine List.forall_mem_cons.2 ⟨ok5, ?_⟩
  refine List.forall_mem_cons.2 ⟨ok6, ?_⟩
  refine List.forall_mem_cons.2 ⟨ok128, ?_⟩
  refine List.forall_mem_cons.2 ⟨ok129, ?_⟩
  refine List.forall_mem_cons.2 ⟨ok130, ?_⟩
  refine List.forall_mem_cons.2 ⟨ok131, ?_⟩
  refine List.forall_mem_cons.2 ⟨ok2, ?_⟩
  refine List.forall_mem_cons.2 ⟨ok76, ?_⟩
  refine List.forall_mem_cons.2 ⟨ok77, ?_⟩
  refine List.forall_mem_cons.2 ⟨ok78, ?_⟩
  refine List.forall_mem_cons.2 ⟨ok80, ?_⟩
  refine List.forall_mem_cons.2 ⟨ok79, ?_⟩
  refine List.forall_mem_cons.2 ⟨ok132, ?_⟩
  refine List.forall_mem_cons.2 ⟨ok133, ?_⟩
  refine List.forall_mem_cons.2 ⟨ok186, ?_⟩
  refine List.forall_mem_cons.2 ⟨ok194, ?_⟩
  refine List.forall_mem_cons.2 ⟨ok195, ?_⟩
  refine List.forall_mem_cons.2 ⟨ok196, ?_⟩
  refine List.forall_mem_cons.2 ⟨ok135, ?_⟩
  refine List.forall_mem_cons.2 ⟨ok136, ?_⟩
  refine List.forall_mem_cons.2 ⟨ok137, ?_⟩
  refine List.forall_mem_cons.2 ⟨ok138, ?_⟩
  refine List.forall_mem_cons.2 ⟨ok139, ?_⟩
  refine List.forall_mem_cons.2 ⟨ok140, ?_⟩
  refine List.forall_mem_cons.2 ⟨ok141, ?_⟩
  refine List.forall_mem_cons.2 ⟨ok1, ?_⟩
  refine List.forall_mem_cons.2 ⟨ok142, ?_⟩
  refine List.forall_mem_cons.2 ⟨ok188, ?_⟩
  refine List.forall_mem_cons.2 ⟨ok197, ?_⟩
  refine List.forall_mem_cons.2 ⟨ok198, ?_⟩
  refine List.forall_mem_cons.2 ⟨ok199, ?_⟩
  refine List.forall_mem_cons.2 ⟨ok108, ?_⟩
  refine List.forall_mem_cons.2 ⟨ok109, ?_⟩
  refine List.forall_mem_cons.2 ⟨ok110, ?_⟩
  refine List.forall_mem_cons.2 ⟨ok111, ?_⟩
  refine List.forall_mem_cons.2 ⟨ok112, ?_⟩
  refine List.forall_mem_cons.2 ⟨ok113, ?_⟩
  refine List.forall_mem_cons.2 ⟨ok114, ?_⟩
  refine List.forall_mem_cons.2 ⟨ok115, ?_⟩
  refine List.forall_mem_cons.2 ⟨ok116, ?_⟩
  refine List.forall_mem_cons.2 ⟨ok117, ?_⟩
  refine List.forall_mem_cons.2 ⟨ok118, ?_⟩
  refine List.forall_mem_cons.2 ⟨ok119, ?_⟩
  refine List.forall_mem_cons.2 ⟨ok120, ?_⟩
  refine List.forall_mem_cons.2 ⟨ok9, ?_⟩
  refine List.forall_mem_cons.2 ⟨ok10, ?_⟩
  refine List.forall_mem_cons.2 ⟨ok144, ?_⟩
  refine List.forall_mem_cons.2 ⟨ok145, ?_⟩
  refine List.forall_mem_cons.2 ⟨ok146, ?_⟩
  refine List.forall_mem_cons.2 ⟨ok147, ?_⟩
  refine List.forall_mem_cons.2 ⟨ok16, ?_⟩
  refine List.forall_mem_cons.2 ⟨ok148, ?_⟩
  refine List.forall_mem_cons.2 ⟨ok149, ?_⟩
  refine List.forall_mem_cons.2 ⟨ok150, ?_⟩
  refine List.forall_mem_cons.2 ⟨ok151, ?_⟩
  refine List.forall_mem_cons.2 ⟨ok152, ?_⟩
  refine List.forall_mem_cons.2 ⟨ok153, ?_⟩
  refine List.forall_mem_cons.2 ⟨ok17, ?_⟩
  refine List.forall_mem_cons.2 ⟨ok154, ?_⟩
  refine List.forall_mem_cons.2 ⟨ok155, ?_⟩
  refine List.forall_mem_cons.2 ⟨ok156, ?_⟩
  refine List.forall_mem_cons.2 ⟨ok157, ?_⟩
  refine List.forall_mem_cons.2 ⟨ok158, ?_⟩
  refine List.forall_mem_cons.2 ⟨ok159, ?_⟩
  refine List.forall_mem_cons.2 ⟨ok160, ?_⟩
  refine List.forall_mem_cons.2 ⟨ok161, ?_⟩
  refine List.forall_mem_cons.2 ⟨ok162, ?_⟩
  refine List.forall_mem_cons.2 ⟨ok21, ?_⟩
  refine List.forall_mem_cons.2 ⟨ok163, ?_⟩
  refine List.forall_mem_cons.2 ⟨ok164, ?_⟩
  refine List.forall_mem_cons.2 ⟨ok165, ?_⟩
  refine List.forall_mem_cons.2 ⟨ok200, ?_⟩
  exact fun _ h => by cases h
theorem okT (f : Nat) (kf : KF) (h : T f = some kf) : okF Tryz.prog num f kf = true := okL (f, kf) (look_mem tab h)
theorem sound (n f : Nat) (args rs outs : List A) (h : evF T n f args = some (rs, outs)) : CallOk Tryz.prog (num f) args rs outs := evF_sound (by kernel_rfl) okT n f args rs outs h

end Go.Proofs.YtmaigpiappmpcaaGreat
