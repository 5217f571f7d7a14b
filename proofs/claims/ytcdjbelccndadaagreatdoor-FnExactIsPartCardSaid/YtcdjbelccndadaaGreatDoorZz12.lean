/- Part of the proof: a machine over plain data, its proof, the functions of the program run on symbols, what they answer. Condition: none. -/
import Derived.Test.YtcdjbelccndadaaGreatDoorZz04
import Derived.Test.YtcdjbelccndadaaGreatDoorZz08
import Derived.Test.YtcdjbelccndadaaGreatDoorZz11
set_option linter.unusedVariables false
set_option linter.unusedSimpArgs false
namespace Go.Proofs.YtcdjbelccndadaaGreatDoor
section
open Go.RowKit
set_option maxRecDepth 100000
theorem Chg.refl{h:Nat→Nat}{F:List Nat}{w:World}(hnew:∀g,w.heap.size≤g→h g=0):Chg h F w w h:=
 ⟨rfl,rfl,rfl,Nat.le_refl _,fun _ _ _=>rfl,fun _ _ _ _=>rfl,fun _ _=>Nat.le_refl _,fun _ _ _=>rfl,hnew,fun _ h=>h⟩
theorem Chg.trans {h h1 h2 : Nat → Nat} {F : List Nat} {w w1 w2 : World} (a : Chg h F w w1 h1) (b : Chg h1 F w1 w2 h2) : Chg h F w w2 h2 :=
  ⟨b.os.trans a.os, b.tape.trans a.tape, b.output.trans a.output, Nat.le_trans a.size b.size, fun g hg hn => (b.block g (Nat.lt_of_lt_of_le hg a.size) hn).trans (a.block g hg hn),
   fun g j hg hj => (b.cell g j (Nat.lt_of_lt_of_le hg a.size) (Nat.lt_of_lt_of_le hj (a.mono g hg))).trans (a.cell g j hg hj), fun g hg => Nat.le_trans (a.mono g hg) (b.mono g (Nat.lt_of_lt_of_le hg a.size)),
   fun g hg hn => (b.hold g (Nat.lt_of_lt_of_le hg a.size) hn).trans (a.hold g hg hn), b.hnew, fun g h => b.kthaw g (a.kthaw g h)⟩
theorem chg_same {h : Nat → Nat} {w w' : World} (ho : w'.os = w.os) (ht : w'.tape = w.tape) (hp : w'.output = w.output) (hs : w.heap.size ≤ w'.heap.size) (hb : ∀ g, g < w.heap.size → w'.heap[g]? = w.heap[g]?) (hnew : ∀ g, w.heap.size ≤ g → h g = 0) : Chg h [] w w' h :=
  ⟨ho, ht, hp, hs, fun g hg _ => hb g hg, fun g j hg _ => World.cell?_of_block (w := w) (hb g hg), fun _ _ => Nat.le_refl _, fun _ _ _ => rfl, fun g hg => hnew g (Nat.le_trans hs hg),
   fun g hg => ⟨Nat.lt_of_lt_of_le hg.1 hs, fun j => by rw [World.frozen?_of_block (w := w) (hb g hg.1)]; exact hg.2 j⟩⟩
theorem ret_plain{as':List A}{x:D}{v:Value}{w w':World}{h:Nat→Nat}{F:List Nat}{vs:List Value}{h':Nat→Nat}(hv:Rp w' x v [])(hc:Chg h F w w' h')(ho:outVals as' vs=[]) :
  ∃v1 us F1 F2 h1,Ending.returned v=.returned v1∧RetV us v1∧ARs h1 w' [.val false [.d x]] us F1∧ARs h1 w' [] (outVals as' vs) F2∧(F1++F2).Nodup∧(∀g∈F1++F2,(w.heap.size≤g∨g∈F)∧g < w'.heap.size)∧Chg h F w w' h1:=by
 refine⟨v,[v],[],[],h',rfl,.inl rfl,?_,by rw[ho];exact⟨rfl,rfl⟩,by simp,fun g hg=>by simp at hg,hc⟩;simp only[ARs,AR,RVRs,RVR];exact⟨v,[],[],[],rfl,rfl,⟨[v],⟨v,[],[],[],rfl,rfl,⟨rfl,[],hv,fun be hb=>by simp at hb⟩,rfl,rfl⟩,(fun h=>by cases h),fun _=>rfl⟩,rfl,rfl⟩
theorem itoa_len(n:Int)(h:-9223372036854775808≤n∧n≤9223372036854775807):(Lib.itoa n).length≤4096:=by
 have hd:∀(k u:Nat),u < 10 ^ (k+1)→(Lib.decDigits u).length≤k+1:=by
  intro k
  induction k with
  |zero=>intro u hu;rw[Lib.decDigits,dif_pos (by simpa using hu)];simp
  |succ k ih=>
   intro u hu;rw[Lib.decDigits];split
   ·simp
   ·have:=ih (u / 10) (by rw[Nat.div_lt_iff_lt_mul (by decide)];simpa [Nat.pow_succ] using hu);simp
    omega
 unfold Lib.itoa;split
 ·have:=hd 19 n.natAbs (by simp;omega);simp;omega
 ·have:=hd 19 n.toNat (by simp;omega);omega
theorem indexByte_bd:∀(l:List UInt8) (c:UInt8),-1≤Lib.indexByte l c∧Lib.indexByte l c≤l.length
 |[],c=>by simp[Lib.indexByte]
 |b::l,c=>by
  have ih:=indexByte_bd l c;simp only[Lib.indexByte,List.length_cons];split
  ·omega
  ·split<;>omega
theorem x9001(args rs outs:List A)(he:XT 9001 args=some (rs,outs)):CallOk Tryz.prog (num 9001) args rs outs:=by
 simp only[XT,if_true]at he
 split at he
 ·rename_i n;simp only[Option.some.injEq,Prod.mk.injEq]at he;obtain⟨rfl,rfl⟩:=he;intro w h vs F hL hA hnd hlt hnew;simp only[ARs,AR,RVRs,RVR]at hA;obtain⟨u,vs',F1,F2,rfl,rfl,⟨us,⟨v1,vs1,G1,G2,rfl,rfl,⟨rfl,G,hrp,_⟩,rfl,rfl⟩,_,hu⟩,rfl,rfl⟩:=hA;have hu:=hu trivial;simp only[List.cons.injEq,and_true]at hu;subst hu;simp only[Rp]at hrp;obtain⟨rfl,rfl,hw⟩:=hrp;have hb:=i64_bd hw;obtain⟨g0,hg0⟩:=Option.isSome_iff_exists.1 (show (Tryz.prog.globalNamed tabName).isSome=true by kernel_rfl);obtain⟨_,_,htab⟩:=hL g0 hg0;refine Calls.mono (Tryz.strconv_Itoa n hb.1 hb.2 w htab) fun e w' hp=>?_;obtain⟨rfl,k,os,rfl⟩:=hp;refine ret_plain ?_ (chg_same rfl rfl rfl ?_ ?_ hnew) rfl
  ·simp only[Rp];refine⟨trivial,trivial,?_⟩;have hl:=itoa_len n hb;simp only[ByteArray.size,List.size_toArray,maxLen];omega
  ·simp[Sort.grow]
  ·intro g hg;simp only[Sort.grow,World.heap_drewN];rw[Array.getElem?_append_left hg]
 ·cases he
theorem x9002(args rs outs:List A)(he:XT 9002 args=some (rs,outs)):CallOk Tryz.prog (num 9002) args rs outs:=by
 simp only[XT,Nat.reduceEqDiff,if_false,if_true]at he
 split at he
 ·rename_i s c;simp only[Option.some.injEq,Prod.mk.injEq]at he;obtain⟨rfl,rfl⟩:=he;intro w h vs F hL hA hnd hlt hnew;simp only[ARs,AR,RVRs,RVR]at hA;obtain⟨u,vs',F1,F2,rfl,rfl,⟨us,⟨v1,vs1,G1,G2,rfl,rfl,⟨rfl,G,hrp,_⟩,rfl,rfl⟩,_,hu⟩,u2,vs2,H1,H2,rfl,rfl,⟨us2,⟨v2,vs3,G3,G4,rfl,rfl,⟨rfl,G5,hrp2,_⟩,rfl,rfl⟩,_,hu2⟩,rfl,rfl⟩:=hA;have hu:=hu trivial;have hu2:=hu2 trivial;simp only[List.cons.injEq,and_true]at hu hu2;subst hu hu2;simp only[Rp]at hrp hrp2;obtain⟨rfl,rfl,hs⟩:=hrp;obtain⟨rfl,rfl,hc⟩:=hrp2;refine Calls.mono (Tryz.strings_IndexByte s c w) fun e w' hp=>?_;obtain⟨rfl,rfl⟩:=hp;refine ret_plain ?_ (chg_same rfl rfl rfl (Nat.le_refl _) (fun _ _=>rfl) hnew) rfl;simp only[Rp];refine⟨trivial,trivial,?_⟩;have hl:=indexByte_bd s.data.toList c.toNat.toUInt8;have hz:s.data.toList.length≤maxLen:=by rw[Array.length_toList];exact hs
  simp only[maxLen]at hz;exact i64_wrap (by omega)
 ·cases he
theorem joinB_take:∀(bs es:List Bool) (i:Nat) (b e:Bool),bs[i]?=some b→es[i]?=some e→(joinB bs (es.take i))[i]?=some b∧joinB bs (es.take (i+1))=(joinB bs (es.take i)).set i (b ||e)∧grewB bs (es.take (i+1))=(grewB bs (es.take i) ||(e && !b))
 |[],_,_,_,_,hb,_=>by simp at hb
 |a::bs,[],_,_,_,_,he=>by simp at he
 |a::bs,x::es,0,b,e,hb,he=>by
  simp only[List.getElem?_cons_zero,Option.some.injEq]at hb he;subst hb he;cases bs<;>simp[joinB,grewB]
 |a::bs,x::es,i+1,b,e,hb,he=>by
  simp only[List.getElem?_cons_succ]at hb he;obtain⟨h1,h2,h3⟩:=joinB_take bs es i b e hb he;simp only[List.take_succ_cons,joinB,grewB,List.getElem?_cons_succ,List.set_cons_succ,h1,h2,h3,Bool.or_assoc,and_self]
theorem setB_self{w:World}{g:Nat}{T:TypeId}{vs:List Value}(h:Blk w g T vs):setB w g (.cells vs.toArray T (0,0))=w:=by
 unfold setB;have e:w.heap.setIfInBounds g (.cells vs.toArray T (0,0))=w.heap:=by
  apply Array.ext_getElem?
  intro k;rw[Array.getElem?_setIfInBounds];split
  ·rename_i hk;subst hk;rw[if_pos h.lt];exact h.symm
  ·rfl
 rw[e]
set_option maxHeartbeats 1600000 in
theorem x9004:JoinOk Tryz.prog (num 9004):=by
 intro w g T bs es c b o m cc rest hB hsrc hbg hlen hbig;simp only[maxLen]at hbig;have h0:Blk (setB w g (.cells ((joinB bs (es.take 0)).map Value.bool++rest).toArray T (0,0))) g T ((joinB bs (es.take 0)).map Value.bool++rest):=hB.setSame T _;have hj0:joinB bs (es.take 0)=bs:=by cases bs<;>simp[joinB]
 have hw0:setB w g (.cells ((joinB bs (es.take 0)).map Value.bool++rest).toArray T (0,0))=w:=by rw[hj0];exact setB_self hB
 refine enter (N:=28) Tryz.func205 rfl Tryz.ntmps205 rfl ?_;refine w_seq ?_;refine w_region ?_;refine l_op wn (o_val (x_assign ec) ?_);refine l_nil ?_;refine w_seq ?_;refine w_region ?_;refine l_op wn (o_val (x_assign ec) ?_);refine l_nil ?_;refine w_seq ?_;refine w_seq ?_;refine w_region ?_;refine l_op wn (o_val (x_move (et (v:=.slice (some ⟨b,o,none⟩) es.length cc) rfl)) ?_);refine l_op wn (o_val (x_len Tryz.underlying157 (et (v:=.slice (some ⟨b,o,none⟩) es.length cc) rfl)) ?_);refine l_op wn (o_val (x_move ec) ?_);refine l_nil ?_;refine w_block ?_;refine w_loop (fun μ f w'=>∃(i:Nat),f 0=.slice (some ⟨g,0,none⟩) bs.length c∧f 1=.slice (some ⟨b,o,none⟩) es.length cc∧f 5=.bool (grewB bs (es.take i))∧f 8=.int .i64 (es.length:Int)∧f 9=.int .i64 (i:Int)∧i≤es.length∧w'=setB w g (.cells ((joinB bs (es.take i)).map Value.bool++rest).toArray T (0,0))∧μ=es.length - i) (es.length - 0) ?_ ?_
 ·exact⟨0,rfl,rfl,by show Value.bool false=_;cases bs<;>rfl,rfl,rfl,Nat.zero_le _,hw0.symm,rfl⟩
 rintro μ f1 w1 ⟨i,s0,s1,s5,s8,s9,hi,rfl,rfl⟩
 refine w_seq ?_;refine w_region ?_;by_cases hlt:(i:Int) < (es.length:Int)
 rotate_left
 ·refine l_op wn (o_val (x_lss (r:=false) (et (v:=.int .i64 (i:Int)) s9) (et (v:=.int .i64 (es.length:Int)) s8) (dec_f hlt)) ?_);refine l_nil ?_;refine w_seq ?_;refine w_if_f (et (v:=.bool false) rfl) ?_;refine w_exit ?_;refine Eq.mpr (if_pos rfl) ?_;have hie:i=es.length:=by omega
  subst hie;rw[List.take_length]at s5 ⊢;refine w_seq ?_;refine w_region ?_;refine l_op wn (o_val (x_move (et (v:=.bool (grewB bs es)) s5)) ?_);refine l_op wn (o_val (x_assign (et (v:=.bool (grewB bs es)) rfl)) ?_);refine l_nil ?_;refine w_ret ?_;exact⟨_,r_tmp (v:=.bool (grewB bs es)) Tryz.results205 rfl,rfl,rfl⟩
 have hin:i < es.length:=by omega
 obtain⟨e,he⟩:∃e,es[i]?=some e:=⟨es[i],by simp[hin]⟩
 obtain⟨x,hx⟩:∃x,bs[i]?=some x:=⟨bs[i]'(by omega),by simp[show i < bs.length by omega]⟩
 obtain⟨j1,j2,j3⟩:=joinB_take bs es i x e hx he;have hjl:=joinB_len bs (es.take i);generalize hcur:joinB bs (es.take i)=cur at *;have hB1:=hB.setSame T (cur.map Value.bool++rest);have hc1:(setB w g (.cells (cur.map Value.bool++rest).toArray T (0,0))).cell? ⟨b,o+i * 1,none⟩=some (.bool e):=by
  rw[World.cell?_of_block (w:=w) ((Off.setB w g (cur.map Value.bool++rest).toArray T).block b hbg),Nat.mul_one];exact hsrc i _ (by simp[he])
 have hc2:(setB w g (.cells (cur.map Value.bool++rest).toArray T (0,0))).cell? ⟨g,0+i * 1,none⟩=some (.bool x):=by
  rw[hB1.cell,Nat.mul_one,Nat.zero_add,List.getElem?_append_left (by simp;omega)];simp[j1]
 refine l_op wn (o_val (x_lss (r:=true) (et (v:=.int .i64 (i:Int)) s9) (et (v:=.int .i64 (es.length:Int)) s8) (dec_t hlt)) ?_);refine l_nil ?_;refine w_seq ?_;refine w_if_t (et (v:=.bool true) rfl) ?_;refine w_skip ?_;refine w_seq ?_;refine w_block ?_;refine w_seq ?_;refine w_region ?_;refine l_op wn (o_val (x_move (et (v:=.int .i64 (i:Int)) s9)) ?_);refine l_op wn (o_val (x_assign (et (v:=.int .i64 (i:Int)) rfl)) ?_);refine l_nil ?_;refine w_seq ?_;refine w_region ?_;refine l_op wn (o_val (x_move (et (v:=.slice (some ⟨b,o,none⟩) es.length cc) s1)) ?_);refine l_op wn (o_val (x_move (et (v:=.int .i64 (i:Int)) rfl)) ?_);refine l_op wn (o_val (x_index (i:=i) Tryz.underlying157 Tryz.sizeOf4 (et (v:=.slice (some ⟨b,o,none⟩) es.length cc) rfl) (et (v:=.int .i64 (i:Int)) rfl) rfl hin) ?_);refine l_op wn (o_val (x_load (v:=.bool e) Tryz.isAgg4 (et (v:=.pointer (some ⟨b,o+i * 1,none⟩)) rfl) hc1) ?_);refine l_op wn (o_val (x_move (et (v:=.bool e) rfl)) ?_);cases e with
 |false=>
  refine l_pass (wx rfl) ?_;refine l_pass (wx rfl) ?_;refine l_pass (wx rfl) ?_;refine l_pass (wx rfl) ?_;refine l_pass (wx rfl) ?_;refine l_op wn (o_val (x_pick_f (v:=.bool false) (et (v:=.bool false) rfl) ec) ?_);refine l_nil ?_;refine w_if_f (et (v:=.bool false) rfl) ?_;refine w_skip ?_;refine w_region ?_;refine l_op wn (o_val (x_add (et (v:=.int .i64 (i:Int)) s9) ec (by omega)) ?_);refine l_op wn (o_val (x_move (et (v:=.int .i64 ((i:Int)+1)) rfl)) ?_);refine l_nil ?_;refine⟨es.length - (i+1),by omega,i+1,s0,s1,?_,s8,vint (by omega),by omega,?_,rfl⟩
  ·exact (show f1 5=_ from s5).trans (by rw[j3];simp)
  ·rw[j2];have:cur.set i (x ||false)=cur:=by
    apply List.ext_getElem?
    intro k;rw[List.getElem?_set];split
    ·rename_i hk;subst hk;rw[j1];simp;omega
    ·rfl
   rw[this]
 |true=>
  refine l_op (wy rfl) (o_val (x_move (et (v:=.slice (some ⟨g,0,none⟩) bs.length c) s0)) ?_);refine l_op (wy rfl) (o_val (x_move (et (v:=.int .i64 (i:Int)) rfl)) ?_);refine l_op (wy rfl) (o_val (x_index (i:=i) Tryz.underlying157 Tryz.sizeOf4 (et (v:=.slice (some ⟨g,0,none⟩) bs.length c) rfl) (et (v:=.int .i64 (i:Int)) rfl) rfl (by omega)) ?_);refine l_op (wy rfl) (o_val (x_load (v:=.bool x) Tryz.isAgg4 (et (v:=.pointer (some ⟨g,0+i * 1,none⟩)) rfl) hc2) ?_);refine l_op (wy rfl) (o_val (x_not (b:=x) (et (v:=.bool x) rfl)) ?_);refine l_op wn (o_val (x_pick_t (v:=.bool !x) (et (v:=.bool true) rfl) (et (v:=.bool !x) rfl)) ?_);refine l_nil ?_;cases x with
  |true=>
   refine w_if_f (et (v:=.bool false) rfl) ?_;refine w_skip ?_;refine w_region ?_;refine l_op wn (o_val (x_add (et (v:=.int .i64 (i:Int)) s9) ec (by omega)) ?_);refine l_op wn (o_val (x_move (et (v:=.int .i64 ((i:Int)+1)) rfl)) ?_);refine l_nil ?_;refine⟨es.length - (i+1),by omega,i+1,s0,s1,?_,s8,vint (by omega),by omega,?_,rfl⟩
   ·exact (show f1 5=_ from s5).trans (by rw[j3];simp)
   ·rw[j2];have:cur.set i (true ||true)=cur:=by
     apply List.ext_getElem?
     intro k;rw[List.getElem?_set];split
     ·rename_i hk;subst hk;rw[j1];simp;omega
     ·rfl
    rw[this]
  |false=>
   refine w_if_t (et (v:=.bool true) rfl) ?_;refine w_seq ?_;refine w_region ?_;refine l_op wn (o_val (x_move (et (v:=.slice (some ⟨g,0,none⟩) bs.length c) s0)) ?_);refine l_op wn (o_val (x_move (et (v:=.int .i64 (i:Int)) rfl)) ?_);refine l_op wn (o_val (x_index (i:=i) Tryz.underlying157 Tryz.sizeOf4 (et (v:=.slice (some ⟨g,0,none⟩) bs.length c) rfl) (et (v:=.int .i64 (i:Int)) rfl) rfl (by omega)) ?_);refine l_op wn (o_skip (x_store (v:=.bool true) Tryz.sizeOf4 (et (v:=.pointer (some ⟨g,0+i * 1,none⟩)) rfl) ec rfl hB1 (by simp;omega)) ?_);refine l_nil ?_;refine w_region ?_;refine l_op wn (o_val (x_assign ec) ?_);refine l_nil ?_;refine w_region ?_;refine l_op wn (o_val (x_add (et (v:=.int .i64 (i:Int)) s9) ec (by omega)) ?_);refine l_op wn (o_val (x_move (et (v:=.int .i64 ((i:Int)+1)) rfl)) ?_);refine l_nil ?_;refine⟨es.length - (i+1),by omega,i+1,s0,s1,?_,s8,vint (by omega),by omega,?_,rfl⟩
   ·rw[j3];show Value.bool true=_;simp
   ·rw[j2,setB_setB]
    congr 2
    rw[Nat.zero_add,Nat.mul_one,List.set_append_left _ _ (by simp;omega)];simp[List.map_set]
def T0(f:Nat):Option KF:=if f=333 then some k333 else none
theorem clo_ok(a t:ByteArray)(x y:D):CallOk Tryz.prog (num 333) [.val true [.d (.str a),.d x,.d y],.box [.d (.str t)]] [.val false [.d (.bool (decide (a=t)))]] [.box [.d (.str t)]]:=by
 have h1:lim T0 333 [.val true [.d (.str a),.d x,.d y],.box [.d (.str t)]]=some ([.val false [.d (.bool (decide (a=t)))]],[.box [.d (.str t)]]):=by
  rw[lim_fn (f:=333) rfl rfl];simp -implicitDefEqProofs only [finR,go_sem,Nat.reduceAdd,Nat.reduceEqDiff,Nat.reduceLeDiff,Nat.reduceBNe,Option.map_some]
 obtain⟨n,hn⟩:=(lim_iff T0 333 _ _).1 h1;have hT:∀f kf,T0 f=some kf→OkK Tryz.prog num f kf:=fun f kf h=>by
  unfold T0 at h
  split at h
  ·rename_i hf;cases h;rw[hf];exact .of ok333 rfl
  ·cases h
 exact evF_sound (by kernel_rfl) (fun _=>x9004) hT n _ _ _ _ hn
theorem nmI_next{t a:ByteArray}{ds:List D}{es:List (List D)}{i r:Int}(h:nmI t ((.str a::ds)::es) i=some r):(a=t∧r=i)∨(a≠t∧nmI t es (i+1)=some r):=by
 simp only[nmI]at h
 split at h
 ·rename_i he;cases h;exact .inl ⟨he,rfl⟩
 ·rename_i he;exact .inr ⟨he,h⟩
theorem x_callv{P:Program}{ρ:Operand→Value}{dst:Option Tmp}{ty:TypeId}{pos:String}{aft:Array Edge}{gd:Option (Nat×Bool)}{w:World}{F:FuncId}{x:Operand}{as':Array Operand}{ts:Array TypeId}{vs cap:Array Value}(hC:∀(args:Array Value) (w:World),(callFunc F args).run P w=.ok (.enter F args) w)(hF:ρ x=.func (.func F) #[] cap)(ha:as'.map ρ=vs) :
  (execOp ρ ⟨dst,.call {callee:=.value x,args:=as',argTypes:=ts },ty,pos,aft,gd⟩).run P w=.ok (.enter F (vs++cap)) w:=by
 subst ha;simp[execOp,resolve,Deferred.ofValue,hF,invoke,hC]
theorem mf_run{P:Program}{ρ:Operand→Value}{dst:Option Tmp}{ty:TypeId}{pos:String}{aft:Array Edge}{gd:Option (Nat×Bool)}{w:World}{F:FuncId}{x:Operand}{v:Value}(hx:ρ x=v) :
  (execOp ρ ⟨dst,.makeFunc (.func F) #[] #[x],ty,pos,aft,gd⟩).run P w=.ok (.value (.func (.func F) #[] #[v])) w:=by
 subst hx;simp[execOp,Instr.makeFunc]
set_option maxHeartbeats 1600000 in
theorem ixf_ok(t:ByteArray)(es:List (List D))(fl:Bool)(r:Int)(hr:nmI t es 0=some r)(w:World)(h:Nat→Nat)(A0:Option Addr)(n c:Nat)(G:Fp)(hrp:Rp w (.list 3 fl es) (.slice A0 n c) G)(hset:Settled h G)(g:Nat)(T:TypeId)(hb:Blk w g T [.string t])(hg0:h g=0)(hts:t.size≤maxLen)
  (hnew:∀y,w.heap.size≤y→h y=0) (hgl:g < w.heap.size) (hL:Lay Tryz.prog w [g]) :
  Calls Tryz.prog 164 #[.slice A0 n c,.func (.func 165) #[] #[.pointer (some ⟨g,0,none⟩)]] w fun e w'=>e=.returned (.int .i64 r)∧IntKind.i64.wrap r=r∧∃h',Chg h [g] w w' h':=by
 simp only[Rp]at hrp;obtain⟨A1,n1,c1,hsl,q2,q3,q4,q5,q6,q7,q8⟩:=hrp;simp only[Value.slice.injEq]at hsl;obtain⟨rfl,rfl,rfl⟩:=hsl;have hbig:n≤maxLen:=Nat.le_trans q3 q4;simp only[maxLen]at hbig;refine enter (N:=19) Tryz.func164 rfl Tryz.ntmps164 rfl ?_;refine w_seq ?_;refine w_region ?_;refine l_op wn (o_val (x_assign ec) ?_);refine l_nil ?_;refine w_seq ?_;refine w_seq ?_;refine w_region ?_;refine l_op wn (o_val (x_move (et (v:=.slice A0 n c) rfl)) ?_);refine l_op wn (o_val (x_len Tryz.underlying29 (et (v:=.slice A0 n c) rfl)) ?_);refine l_op wn (o_val (x_move ec) ?_);refine l_nil ?_;refine w_block ?_;refine w_loop (fun μ f w'=>∃(i:Nat) (h':Nat→Nat) (T':TypeId),f 0=.slice A0 n c∧f 1=.func (.func 165) #[] #[.pointer (some ⟨g,0,none⟩)]∧f 7=.int .i64 (n:Int)∧f 8=.int .i64 (i:Int)∧i≤n∧nmI t (es.drop i) i=some r∧Chg h [g] w w' h'∧Blk w' g T' [.string t]∧h' g=0∧μ=n - i) (n - 0) ?_ ?_
 ·exact⟨0,h,T,rfl,rfl,rfl,rfl,Nat.zero_le _,by simpa using hr,Chg.refl hnew,hb,hg0,rfl⟩
 rintro μ f1 w1 ⟨i,h1,T1,s0,s1,s7,s8,hi,hm,hc1,hb1,hz1,rfl⟩
 refine w_seq ?_;refine w_region ?_;by_cases hlt:(i:Int) < (n:Int)
 rotate_left
 ·refine l_op wn (o_val (x_lss (r:=false) (et (v:=.int .i64 (i:Int)) s8) (et (v:=.int .i64 (n:Int)) s7) (dec_f hlt)) ?_);refine l_nil ?_;refine w_seq ?_;refine w_if_f (et (v:=.bool false) rfl) ?_;refine w_exit ?_;refine Eq.mpr (if_pos rfl) ?_;refine w_seq ?_;refine w_region ?_;refine l_op wn (o_val (x_assign ec) ?_);refine l_nil ?_;refine w_ret ?_;have hd:es.drop i=[]:=List.drop_of_length_le (by omega);rw[hd]at hm;simp only[nmI,Option.some.injEq]at hm;subst hm;exact⟨_,r_tmp (v:=.int .i64 (-1)) Tryz.results164 rfl,rfl,rfl,h1,hc1⟩
 have hin:i < n:=by omega
 obtain⟨e,hei⟩:∃e,es[i]?=some e:=⟨es[i]'(by omega),by simp[show i < es.length by omega]⟩
 have hel:=q7 e (List.mem_of_getElem? hei);have hde:es.drop i=e::es.drop (i+1):=drop_nth es i e (by rw[nth_get];exact hei);rw[hde]at hm;rcases q8 with ⟨q8,_⟩|⟨_,b,o,xs,G1,rfl,rfl,a2,a3⟩
 ·omega
 obtain⟨GE,hrc,hGE⟩:=a2.at_ q7 hei;have hall:∀be∈(b,o+n * 3)::G1,∀j,j < be.2→w1.cell? ⟨be.1,j,none⟩=w.cell? ⟨be.1,j,none⟩:=fun be hbe j hj=>
  hc1.cell be.1 j (by
   rcases Nat.lt_or_ge be.1 w.heap.size with hl|hl
   ·exact hl
   ·have h0:=hset be hbe;rw[hnew _ hl]at h0;omega) (Nat.lt_of_lt_of_le hj (hset be hbe))
 have hrc1:RpC w1 e ((xs.drop (i * 3)).take 3) GE:=hrc.keep _ (fun be hbe j hj=>hall be (by simp[hGE be hbe]) j hj);have hsetE:Settled h1 GE:=fun be hbe=>by
  have h0:=hset be (by simp[hGE be hbe]);have hl:be.1 < w.heap.size:=by
   rcases Nat.lt_or_ge be.1 w.heap.size with hl|hl
   ·exact hl
   ·exact RpC.lt _ hrc be hbe
  exact Nat.le_trans h0 (hc1.mono _ hl)
 have hlies:Lies w1 b (o+i * 3) ((xs.drop (i * 3)).take 3):=by
  have hbk:i * 3+3≤n * 3:=by omega
  have h0:=a3.sub (i * 3) 3;intro j u hu;have hj:j < 3:=by
   have:=(List.getElem?_eq_some_iff.1 hu).1;simp at this;omega
  rw[hall (b,o+n * 3) (by simp) _ (by simp only;omega)];exact h0 j u hu
 obtain⟨d1,d2,d3,rfl⟩:∃d1 d2 d3,e=[d1,d2,d3]:=by
  match e,hel with
  |[d1,d2,d3],_=>exact⟨d1,d2,d3,rfl⟩
 obtain⟨a,rfl⟩:∃a,d1=.str a:=by
  cases d1 with
  |str a=>exact⟨a,rfl⟩
  |_=>simp[nmI]at hm
 refine l_op wn (o_val (x_lss (r:=true) (et (v:=.int .i64 (i:Int)) s8) (et (v:=.int .i64 (n:Int)) s7) (dec_t hlt)) ?_);refine l_nil ?_;refine w_seq ?_;refine w_if_t (et (v:=.bool true) rfl) ?_;refine w_skip ?_;refine w_seq ?_;refine w_block ?_;refine w_seq ?_;refine w_region ?_;refine l_op wn (o_val (x_move (et (v:=.int .i64 (i:Int)) s8)) ?_);refine l_op wn (o_val (x_assign (et (v:=.int .i64 (i:Int)) rfl)) ?_);refine l_nil ?_;refine w_seq ?_;refine w_region ?_;obtain⟨xe,hxe⟩:∃xe,(xs.drop (i * 3)).take 3=xe:=⟨_,rfl⟩
 rw[hxe]at hrc1 hlies;have hxl:xe.length=3:=RpC.length _ hrc1;refine l_op wn (o_val (x_move (et (v:=.func (.func 165) #[] #[.pointer (some ⟨g,0,none⟩)]) s1)) ?_);refine l_op wn (o_val (x_move (et (v:=.slice (some ⟨b,o,none⟩) n c) s0)) ?_);refine l_op wn (o_val (x_move (et (v:=.int .i64 (i:Int)) rfl)) ?_);refine l_op wn (o_val (x_index (i:=i) Tryz.underlying29 Tryz.sizeOf69 (et (v:=.slice (some ⟨b,o,none⟩) n c) rfl) (et (v:=.int .i64 (i:Int)) rfl) rfl hin) ?_);refine l_op wn (o_val (x_loadN (k:=3) Tryz.isAgg69 Tryz.sizeOf69 (et (v:=.pointer (some ⟨b,o+i * 3,none⟩)) rfl) hxl hlies) ?_);have hL1:Lay Tryz.prog w1 [g]:=hL.step hc1.size (fun y hy hn=>hc1.block y hy hn) (fun y hy=>.inr hy);have hgl1:g < w1.heap.size:=Nat.lt_of_lt_of_le hgl hc1.size;have hcall:=clo_ok a t d2 d3 w1 h1 [.agg xe.toArray,.pointer (some ⟨g,0,none⟩)] [g] hL1 (by
   simp only[ARs,AR,RVRs,RVR];have hrc2:=hrc1;simp only[RpC]at hrc2;obtain⟨v1,t1,E1,E1',rfl,rfl,p1,v2,t2,E2,E2',rfl,rfl,p2,v3,t3,E3,E3',rfl,rfl,p3,rfl,rfl⟩:=hrc2;refine⟨_,_,[],[g],rfl,rfl,⟨[v1,v2,v3],⟨v1,[v2,v3],[],[],rfl,rfl,⟨rfl,E1,p1,fun be hb=>hsetE be (by simp[hb])⟩,v2,[v3],[],[],rfl,rfl,⟨rfl,E2,p2,fun be hb=>hsetE be (by simp[hb])⟩,v3,[],[],[],rfl,rfl,⟨rfl,E3,p3,fun be hb=>hsetE be (by simp[hb])⟩,rfl,rfl⟩,(fun _=>rfl),fun h=>by cases h⟩,_,_,[g],[],rfl,rfl,⟨g,T1,[.string t],[],rfl,hb1,hz1,rfl,.string t,[],[],[],rfl,rfl,⟨rfl,[],?_,fun be hb=>by simp at hb⟩,rfl,rfl⟩,rfl,rfl⟩;simp only[Rp];exact⟨trivial,trivial,hts⟩) (by simp) (fun y hy=>by simp at hy;rw[hy];exact hgl1) hc1.hnew
 refine l_op wn (o_call (x_callv (callFunc_run Tryz.func165 rfl rfl) (et (v:=.func (.func 165) #[] #[.pointer (some ⟨g,0,none⟩)]) rfl) (a1 (et (v:=.agg xe.toArray) rfl))) hcall ?_);intro en w2 hp;obtain⟨v,us,F1,F2,h2,rfl,hret,hrs,houts,_,_,hch⟩:=hp;simp only[ARs,AR,RVRs,RVR]at hrs;obtain⟨u,vs1,H1,H2,rfl,_,⟨us1,⟨v1,vs2,H3,H4,hu1,_,⟨_,GR,hrp1,_⟩,hu2,_⟩,_,hu3⟩,rfl,_⟩:=hrs;have hu3:=hu3 trivial;rw[hu2]at hu1;rw[hu1]at hu3;simp only[List.cons.injEq,and_true]at hu3;subst hu3;simp only[Rp]at hrp1;have hv:v=.bool (decide (a=t)):=by
  rcases hret with h|⟨h,_⟩
  ·simp only[List.cons.injEq,and_true]at h;rw[← h];exact hrp1.1
  ·simp at h
 subst hv;simp only[outVals,ARs,AR,RVRs,RVR]at houts;obtain⟨u2,vs3,H5,H6,hu4,_,⟨g2,T2,vs4,F3,hg2,hb2,hz2,_,v2,vs5,H7,H8,hv4,_,⟨_,GS,hrp2,_⟩,hv5,_⟩,_,_⟩:=houts;simp only[List.cons.injEq]at hu4;obtain⟨rfl,rfl⟩:=hu4;simp only[Value.pointer.injEq,Option.some.injEq,Addr.mk.injEq,and_true]at hg2;subst hg2;simp only[Rp]at hrp2;subst hv5;rw[hrp2.1]at hv4;subst hv4;have hc2:Chg h [g] w w2 h2:=hc1.trans hch;refine⟨_,rfl,?_⟩;refine l_nil ?_;by_cases hat:a=t
 ·have hm1:=nmI_next hm;rcases hm1 with ⟨_,rfl⟩|⟨h0,_⟩
  ·refine w_if_t (et (v:=.bool true) (by simp[upd,hat])) ?_;refine w_seq ?_;refine w_region ?_;refine l_op wn (o_val (x_move (et (v:=.int .i64 (i:Int)) rfl)) ?_);refine l_op wn (o_val (x_assign (et (v:=.int .i64 (i:Int)) rfl)) ?_);refine l_nil ?_;refine w_ret ?_;exact⟨_,r_tmp (v:=.int .i64 (i:Int)) Tryz.results164 rfl,rfl,i64_wrap (by omega),h2,hc2⟩
  ·exact absurd hat h0
 ·have hm1:=nmI_next hm;rcases hm1 with ⟨h0,_⟩|⟨_,hm1⟩
  ·exact absurd h0 hat
  ·refine w_if_f (et (v:=.bool false) (by simp[upd,hat])) ?_;refine w_skip ?_;refine w_region ?_;refine l_op wn (o_val (x_add (et (v:=.int .i64 (i:Int)) s8) ec (by omega)) ?_);refine l_op wn (o_val (x_move (et (v:=.int .i64 ((i:Int)+1)) rfl)) ?_);refine l_nil ?_;exact⟨n - (i+1),by omega,i+1,h2,T2,s0,s1,s7,vint (by omega),by omega,by simpa using hm1,hc2,hb2,hz2,rfl⟩
theorem x9003(args rs outs:List A)(he:XT 9003 args=some (rs,outs)):CallOk Tryz.prog (num 9003) args rs outs:=by
 simp only[XT,Nat.reduceEqDiff,if_false,if_true]at he
 split at he
 ·rename_i fl es t;simp only[Option.map_eq_some_iff,Prod.mk.injEq]at he;obtain⟨r,hr,rfl,rfl⟩:=he;intro w h vs F hL hA hnd hlt hnew;simp only[ARs,AR,RVRs,RVR]at hA;obtain⟨u,vs',F1,F2,rfl,rfl,⟨us,⟨v1,vs1,G1,G2,rfl,rfl,⟨rfl,G,hrp,hset⟩,rfl,rfl⟩,_,hu⟩,u2,vs2,H1,H2,rfl,rfl,⟨us2,⟨v2,vs3,G3,G4,rfl,rfl,⟨rfl,G5,hrp2,_⟩,rfl,rfl⟩,_,hu2⟩,rfl,rfl⟩:=hA;have hu:=hu trivial;have hu2:=hu2 trivial;simp only[List.cons.injEq,and_true]at hu hu2;subst hu hu2;have hrp0:=hrp;simp only[Rp]at hrp hrp2;obtain⟨A0,n,c,rfl,_⟩:=hrp;obtain⟨rfl,rfl,hts⟩:=hrp2;refine enter (N:=8) Tryz.func140 rfl Tryz.ntmps140 rfl ?_;refine w_seq ?_;refine w_region ?_;have hbox:∀{ty:TypeId} {pos:String} {aft:Array Edge} {gd:Option (Nat×Bool)},(execOp (fr (fun i=>#[Value.slice A0 n c,Value.string t].getD i undef) 8).eval ⟨some 3,.box 9 (.tmp 1),ty,pos,aft,gd⟩).run Tryz.prog w=.ok (.value (.pointer (some ⟨w.heap.size,0,none⟩))) (w.alloc (.cells [Value.string t].toArray 9)):=by
   intro ty pos aft gd;have h0:(fr (fun i=>#[Value.slice A0 n c,Value.string t].getD i undef) 8).eval (.tmp 1)=.string t:=et rfl;have h1:(execOp (fr (fun i=>#[Value.slice A0 n c,Value.string t].getD i undef) 8).eval ⟨some 3,.box 9 (.tmp 1),ty,pos,aft,gd⟩).run Tryz.prog w=.ok (.value (.pointer (some ⟨w.heap.size,0,none⟩))) (w.alloc (.cells ((fr (fun i=>#[Value.slice A0 n c,Value.string t].getD i undef) 8).eval (.tmp 1)).cells 9)):=by
    simp[execOp,Instr.box,newVar,newRow,newObj,Sem.run]
   rw[h0]at h1;exact h1
  refine l_op wn (o_new hbox ?_);intro w1 hs1 hk1 hB;refine l_op wn (o_val (x_assign ec) ?_);refine l_nil ?_;refine w_seq ?_;refine w_region ?_;refine l_op wn (o_val (x_move (et (v:=.slice A0 n c) rfl)) ?_);refine l_op wn (o_val (mf_run (et (v:=.pointer (some ⟨w.heap.size,0,none⟩)) rfl)) ?_);have hc1:Chg h [] w w1 h:=chg_same hk1.os hk1.tape hk1.output hk1.size (fun g hg=>hk1.block g hg) hnew;have hrp1:Rp w1 (.list 3 fl es) (.slice A0 n c) G:=hrp0.keep _ (fun be hb j hj=>World.cell?_of_block (w:=w) (hk1.block _ (Rp.lt _ hrp0 be hb)));have hL1:Lay Tryz.prog w1 [w.heap.size]:=hL.step hk1.size (fun g hg _=>hk1.block g hg) (fun g hg=>by simp at hg;omega);have hcall:=ixf_ok t es fl r hr w1 h A0 n c G hrp1 hset w.heap.size 9 hB (hnew _ (Nat.le_refl _)) hts hc1.hnew (by omega) hL1;refine l_op wn (o_call (x_call (callFunc_run Tryz.func164 rfl rfl) rfl (a2 (et (v:=.slice A0 n c) rfl) (et (v:=.func (.func 165) #[] #[.pointer (some ⟨w.heap.size,0,none⟩)]) rfl))) hcall ?_)
  rintro e w2 ⟨rfl,hrw,h2,hch⟩
  refine⟨_,rfl,?_⟩;refine l_op wn (o_val (x_assign (et (v:=.int .i64 r) rfl)) ?_);refine l_nil ?_;refine w_ret ?_;refine⟨_,r_tmp (v:=.int .i64 r) Tryz.results140 rfl,?_⟩;have hcc:Chg h [] w w2 h2:=⟨hch.os.trans hc1.os,hch.tape.trans hc1.tape,hch.output.trans hc1.output,Nat.le_trans hc1.size hch.size,
   fun g hg _=>(hch.block g (by omega) (by simp;omega)).trans (hc1.block g hg (by simp)),fun g j hg hj=>(hch.cell g j (by omega) hj).trans (hc1.cell g j hg hj),
   fun g hg=>hch.mono g (by omega),fun g hg _=>hch.hold g (by omega) (by simp;omega),hch.hnew,fun g hg=>hch.kthaw g (hc1.kthaw g hg)⟩
  exact ret_plain (by simp only[Rp];exact⟨trivial,trivial,hrw⟩) hcc rfl
 ·cases he
end
end Go.Proofs.YtcdjbelccndadaaGreatDoor
