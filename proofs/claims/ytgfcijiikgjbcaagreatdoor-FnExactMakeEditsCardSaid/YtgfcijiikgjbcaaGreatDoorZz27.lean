/- Part of the proof: a machine over plain data, its proof, the functions of the program run on symbols, what they answer. Condition: none. -/
import Derived.Test.YtgfcijiikgjbcaaGreatDoorRows
import Derived.Test.YtgfcijiikgjbcaaGreatDoorTie
import Derived.Test.YtgfcijiikgjbcaaGreatDoorCards
import Derived.ProofKit
import Derived.LaidMore
import Derived.OpenShut
import Derived.ShutString
import Derived.ChangeOld
import Derived.Below
import Derived.Stop.LaidErr
import Derived.Stop.Joined
import Derived.SevenTiedAt
import Derived.Lib.LaidTab
import Derived.Test.YtgfcijiikgjbcaaGreatDoorZz22
import Derived.Test.YtgfcijiikgjbcaaGreatDoorZz26
set_option linter.unusedVariables false
set_option linter.unusedSimpArgs false
open Option renaming some->Z,none->O
open Bool renaming true->I,false->J
namespace Go.Proofs.YtgfcijiikgjbcaaGreatDoor.fnExactMakeEdits
section
open Go.ChangeShapes Go.WideShapes Go.ChangeAt Go.RowKit
open Go.ChangeMaps (open_string shut_string)
theorem own:ownKnob Tryz.prog.godebug=O:=by kernel_rfl
theorem mixed:Tryz.prog.follows .mixedOrders=I:=by kernel_rfl
theorem laidOut:laidOutB Tryz.prog=I:=by kernel_rfl
def rel:M (TypeId×Nat):=[(3,0),(4,1),(9,2),(22,24),(23,7),(37,9),(46,14),(47,3),(49,15),(50,22),(52,23),(55,6),(77,8),(105,19),(107,20),(109,21),(152,13),(190,17),(192,18),(221,16)]
theorem E8:aeq Tryz.prog rel=I:=by kernel_rfl
theorem US (os : Os) (args : Array Value) : laidMetH Tryz.prog Rows.fnExactMakeEditsRow.laid ((World.doorLaid Tryz.prog 4000 os).forCall (fun _ _ => 0) ⟨#[], args, []⟩).memory :=
  laidMetH_of_parts3 (fuel := 8) (laidMet_of_run' 8 (by kernel_rfl) (by kernel_rfl)) (by kernel_rfl) (by kernel_rfl)
theorem ac1 {W : World} (h : laidMetH Tryz.prog Rows.fnExactMakeEditsRow.laid W) : Ua Tryz.prog W [] := by
  rw [MakeChecks.laidMetH_plain _ _ _ (by kernel_rfl)] at h
  intro g hg
  have ht : Lib.TabIs Tryz.prog W J4 .u64 Lib.pow10Tab := Lib.tabIs_of_head (g := 0) (t := 243) (e := 235) (n := 20) (by kernel_rfl) (by kernel_rfl) (by kernel_rfl) (by kernel_rfl) (by kernel_rfl) (by kernel_rfl) (h.tail.tail)
  exact ⟨Oe (ht.cell hg 0 (by decide)), by simp, ht⟩
set_option maxRecDepth 100000 in
theorem lifted(os:Os)(started:os.Started)(H:Type)(enc:TypeId×Value->H) :
  ReturnsInHanded {} Tryz.checked os 4 .any (λw args=>(Rows.fnExactMakeEditsSpec.pre enc Tryz.prog Tryz.f4 Rows.fnExactMakeEditsRow.domain J w args/\laidMetH Tryz.prog Rows.fnExactMakeEditsRow.laid w)/\sizedMet enc Tryz.prog Tryz.f4 (OpenSpec.ofChange Rows.fnExactMakeEditsSpec) J w args) (Rows.fnExactMakeEditsSpec.post enc Tryz.prog Tryz.f4 J I J J):=by
 refine returnsInHanded_of_change_and (C:=Tryz.checked) (X:=λw _=>laidMetH Tryz.prog Rows.fnExactMakeEditsRow.laid w) (λ_ _ _ hh h=>h.of_heap hh) own started (by kernel_rfl) Tryz.func4
  (ChangeSpec.witness_shaped (enc:=enc) (C:=Tryz.checked) (os:=os) (X:=λw _=>laidMetH Tryz.prog Rows.fnExactMakeEditsRow.laid w) J (World.doorLaid Tryz.prog 4000 os) #[(Value.slice O 0 0),(Value.slice O 0 0),(Value.slice O 0 0)] 8 rfl (World.shaped_of_RefB (by kernel_rfl) (by kernel_rfl)) (by kernel_rfl) (by kernel_rfl) (by kernel_rfl) (US os _)) ?_
 intro W i args b gs k LI hW ajD _ hL _;have l:∀(j:Nat) t v,Tryz.f4.params[j]?=Z t->args[j]?=Z v->Value.okWide Tryz.prog W .any i t v:=LI;have hW':=hW;obtain⟨p,q,g,hV,rfl,yo,kl⟩:=hW;have hA:DataW.TrodAll enc Tryz.prog W 0 (λ_=>I) I Tryz.f4.params.toList args.toList b p:=g;rw[Tryz.params4]at hA l;obtain⟨v0,vs0,d0,ds0,p0,q0,afZ,rfl,rfl,h0,r0⟩:=trodAll_cons hA;obtain⟨v1,vs1,d1,ds1,p1,q1,rfl,rfl,rfl,h1,r1⟩:=trodAll_cons r0;obtain⟨v2,vs2,d2,ds2,p2,q2,rfl,rfl,rfl,h2,r2⟩:=trodAll_cons r1;obtain⟨rfl,rfl,rfl⟩:=trodAll_nil r2;obtain rfl:args=#[v0,v1,v2]:=by cases args;simp_all
 obtain⟨rfl,rfl⟩:=trodVars_none hV;have k0:=h0;have T:∀x∈p0,x.block < W.heap.size:=by obtain⟨m,c⟩:=k0;exact DataW.trod_lt m _ _ _ c
 obtain⟨a0,n0,c0,rfl⟩:=okWide_slice Tryz.underlying22 (l 0 22 v0 rfl rfl);obtain⟨x0,F0,adj,y⟩:∃b F,fL maxLen (qJ 24) b/\fE W b [.slice a0 n0 c0] F:=by
  obtain⟨a,d⟩:=h0;exact BS (wJ E8) a 22 24 _ _ d (by decide)
 obtain⟨y0,ys0,rfl,D,L⟩:=fL.cons_inv (t:=.list 12) (ts:=[]) adj;obtain rfl:=L.jH;obtain⟨o,rfl,Y,Q⟩:=D.fY;have k1:=h1;have S:∀x∈p1,x.block < W.heap.size:=by obtain⟨m,c⟩:=k1;exact DataW.trod_lt m _ _ _ c
 obtain⟨a1,n1,c1,rfl⟩:=okWide_slice Tryz.underlying23 (l 1 23 v1 rfl rfl);obtain⟨x1,F1,adk,s⟩:∃b F,fL maxLen (qJ 7) b/\fE W b [.slice a1 n1 c1] F:=by
  obtain⟨a,d⟩:=h1;exact BS (wJ E8) a 23 7 _ _ d (by decide)
 obtain⟨y1,ys1,rfl,B,K⟩:=fL.cons_inv (t:=.list 2) (ts:=[]) adk;obtain rfl:=K.jH;obtain⟨n,rfl,V,P⟩:=B.fY;have k2:=h2;have R:∀x∈p2,x.block < W.heap.size:=by obtain⟨m,c⟩:=k2;exact DataW.trod_lt m _ _ _ c
 obtain⟨a2,n2,c2,rfl⟩:=okWide_slice Tryz.underlying37 (l 2 37 v2 rfl rfl);obtain⟨x2,F2,adl,r⟩:∃b F,fL maxLen (qJ 9) b/\fE W b [.slice a2 n2 c2] F:=by
  obtain⟨a,d⟩:=h2;exact BS (wJ E8) a 37 9 _ _ d (by decide)
 obtain⟨y2,ys2,rfl,A,G⟩:=fL.cons_inv (t:=.list 3) (ts:=[]) adl;obtain rfl:=G.jH;obtain⟨Kh,rfl,U,N⟩:=A.fY;clear g LI;have hc:Calls Tryz.prog 4 #[.slice a0 n0 c0,.slice a1 n1 c1,.slice a2 n2 c2] W λe w'=>e=.returned (.bool I)/\Below W.heap.size W w':=LW (f:=368) mixed adi abP ahl (vo o Y Q n V P Kh U N) (ac1 hL) (n7 (sf y) (n7 (sf s) (n7 (sf r) GG)));refine hc.mono λe W' ⟨he,Co⟩=>?_;subst he;exact⟨_,rfl,_,_,_,[],_,[],hW',trodAll_mk1 (shut_bool Tryz.underlying4 _),(trodAll_cons_mk (Below.trod laidOut (by kernel_rfl) (of_decide_eq_true (by kernel_rfl)) k0 Co T) (trodAll_cons_mk (Below.trod laidOut (by kernel_rfl) (of_decide_eq_true (by kernel_rfl)) k1 Co S) (trodAll_cons_mk (Below.trod laidOut (by kernel_rfl) (of_decide_eq_true (by kernel_rfl)) k2 Co R) trodAll_mk0))),rfl,Co.frame _,λh=>by cases h⟩
theorem over : Rows.fnExactMakeEditsRow.holds Tryz.pinned (OpenSpec.ofChange Rows.fnExactMakeEditsSpec) :=
  OpenClaim.holds_of_wide 4 Tryz.f4 rfl rfl rfl rfl rfl rfl rfl ⟨rfl, rfl, rfl, rfl, rfl⟩ rfl rfl rfl rfl rfl (by kernel_rfl) Tryz.func4 (by kernel_rfl)
    (of_decide_eq_true (by kernel_rfl)) (by unfold Func.isWrapper; first | (rw [if_pos (by decide +kernel)]; kernel_rfl) | (rw [if_neg (by decide +kernel)]; exact ⟨rfl, rfl⟩))
    (fun os started H enc _ => lifted os started H enc)
theorem proved : Rows.FnExactMakeEditsCardSaid :=
  Claim7.holds_tied_plain_at .later [] [.data, .data, .data] true (true, "6b6aa6e87b0a827567bdbab6cb63439d05c87dc416ade02efcc8d9abb3c1071d") false
    over (fun _ h => by cases h) (by kernel_rfl) (fun _ h => by cases h) fnExactMakeEdits_row_tie rfl ⟨rfl, rfl⟩ (by kernel_rfl) rfl
    (fun f fn hf hfn => by
      obtain rfl : f = 4 := Option.some.inj ((show Tryz.prog.funcNamed "loop.example/g03013/laws.FnExactMakeEdits" = some 4 by kernel_rfl).symm.trans hf) |>.symm
      obtain rfl : fn = Tryz.f4 := (Option.some.inj (Tryz.func4.symm.trans hfn)).symm
      exact ⟨by kernel_rfl, fun j t ht => by
        rw [Tryz.params4] at ht
        have hm : t ∈ [22, 23, 37] := by simpa using Array.mem_of_getElem? ht
        have hall : ([22, 23, 37].all fun u => !Tryz.prog.wantsStandIn u) = true := by kernel_rfl
        exact (show Tryz.prog.wantsStandIn t = false by simpa using List.all_eq_true.1 hall t hm)⟩)
    (by kernel_rfl)
end
end Go.Proofs.YtgfcijiikgjbcaaGreatDoor.fnExactMakeEdits
