/- Part of the proof: a machine over plain data, its proof, the functions of the program run on symbols, what they answer. Condition: none. -/
import Derived.Test.YtcdjbelccndadaaGreatDoorZz05
import Derived.Test.YtcdjbelccndadaaGreatDoorZz08
set_option linter.unusedVariables false
set_option linter.unusedSimpArgs false
namespace Go.Proofs.YtcdjbelccndadaaGreatDoor
section
open Go.RowKit
theorem lawT{i f:Nat}{ws:List D}{ag:List A}(h:GF T Sgn i ws=some (0,[.bool true]))(he:encI i ws=some ag)(hr:(look Sgn i).map (fun s=>(s.f,nth s.res 0))=some (f,some ([.val false [.d]],[]))) :
  lim T f ag=some ([.val false [.d (.bool true)]],[]):=by
 cases hl:look Sgn i with
 |none=>rw[hl]at hr;cases hr
 |some sg=>
  obtain⟨ar,r,v,e1,e2,e3,e4⟩:=GF_ok T Sgn i sg hl _ _ _ h;simp only[encI,hl]at he;rw[e1]at he;cases he;rw[hl,Option.map_some,Option.some.injEq,Prod.mk.injEq]at hr;obtain⟨rfl,h2⟩:=hr;rw[e2]at h2;cases h2;cases e3;exact e4
theorem law_lim{P:Program}{num:Nat→FuncId}{T:Nat→Option KF}(hm:P.follows .mixedOrders=true)(hj:num 9004≠1000000→JoinOk P (num 9004))(hT:∀f kf,T f=some kf→OkK P num f kf){f:Nat}{args:List A}(hrun:lim T f args=some ([.val false [.d (.bool true)]],[]))
  {w:World} {vs:List Value} {G:Fp} (hL:Lay P w []) (ha:ArgRs w args vs G):Calls P (num f) vs.toArray w fun e w'=>e=.returned (.bool true)∧Below w.heap.size w w':=by
 obtain⟨n,hn⟩:=(lim_iff T f args _).1 hrun;have h1:=evF_sound hm hj hT n f args _ _ hn;refine (h1 w (hOf w.heap.size (most G)) vs [] hL (ars_of ha (fun be hb=>?_)) List.nodup_nil (fun g hg=>by simp at hg) (fun g hg=>?_)).mono fun e w' ⟨v,us,F1,F2,h',he,hv,hr,_,_,_,hc⟩=>?_
 ·have:=argRs_lt ha be hb;simp only[hOf,this,if_true];exact most_le hb
 ·simp only[hOf];rw[if_neg (by omega)]
 ·simp only[ARs,AR,RVRs,RVR]at hr;obtain⟨u,vs',_,_,rfl,_,⟨us',⟨v1,vs1,_,_,hu1,_,⟨_,G',hrp,_⟩,hu2,_⟩,_,hu3⟩,rfl,_⟩:=hr;have hu:us'=[u]:=hu3 trivial;rw[hu2]at hu1;rw[hu1]at hu;simp only[List.cons.injEq,and_true]at hu;subst hu;simp only[Rp]at hrp;rcases hv with hv|⟨hv,_⟩
  ·simp only[List.cons.injEq,and_true]at hv;subst hv;exact⟨by rw[he,hrp.1],⟨hc.os,hc.tape,hc.output,hc.size,fun g hg=>hc.block g hg (by simp)⟩⟩
  ·simp at hv
end
end Go.Proofs.YtcdjbelccndadaaGreatDoor
