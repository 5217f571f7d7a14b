/- Part of the proof: a machine over plain data, its proof, the functions of the program run on symbols, what they answer. Condition: none. -/
import Derived.Test.YtcdjbelccndadaaGreatDoorZz05
set_option linter.unusedVariables false
set_option linter.unusedSimpArgs false
namespace Go.Proofs.YtcdjbelccndadaaGreatDoor
section
set_option maxRecDepth 100000
set_option maxHeartbeats 4000000
noncomputable abbrev G:Gf:=GF T Sgn
theorem q74(a lo hi:Int):G 74 [.int .i64 a,.int .i64 lo,.int .i64 hi]=some (0,[.bool (inB lo hi a)]):=by
 refine gOf s74 rfl ?_;simp only[go_sem,t74];unfold inB;by_cases h:lo≤a
 ·simp only[go_sem,h]
 ·simp only[go_sem,h]
theorem q217{b:Int}(h:0≤b∧b≤255):G 217 [.int .u8 b]=some (0,[.bool (inB 97 122 b)]):=by
 refine gOf s217 rfl ?_;simp only[go_sem,t217,wrapB h,q74]
theorem q218{b:Int}(h:0≤b∧b≤255):G 218 [.int .u8 b]=some (0,[.bool (inB 48 57 b)]):=by
 refine gOf s218 rfl ?_;simp only[go_sem,t218,wrapB h,q74]
theorem q258(b:Int):G 258 [.int .u8 b]=some (0,[.bool (inB 97 122 b)]):=by
 refine gOf s258 rfl ?_;simp only[go_sem,t258];unfold inB;by_cases h:97≤b
 ·simp only[go_sem,h]
 ·simp only[go_sem,h]
theorem q259(b:Int):G 259 [.int .u8 b]=some (0,[.bool (inB 48 57 b)]):=by
 refine gOf s259 rfl ?_;simp only[go_sem,t259];unfold inB;by_cases h:48≤b
 ·simp only[go_sem,h]
 ·simp only[go_sem,h]
def nameB(b:Int):Bool:=inB 97 122 b ||(inB 48 57 b ||decide (b=45))
def chB(b:Int):Bool:=inB 97 122 b ||(inB 48 57 b ||(decide (b=95) ||(decide (b=45) ||decide (b=46))))
theorem q260(b:Int):G 260 [.int .u8 b]=some (0,[.bool (nameB b)]):=by
 refine gOf s260 rfl ?_;simp only[go_sem,t260,q258]
 repeat' (first|with_reducible rfl|((first|rw[gd_n]|rw[og_n]|rw[gd_m]|rw[og_m]);split<;>simp only[go_sem,q259, *]))
 all_goals simp_all[nameB]
theorem q219{b:Int}(h:0≤b∧b≤255):G 219 [.int .u8 b]=some (0,[.bool (chB b)]):=by
 refine gOf s219 rfl ?_;simp only[go_sem,t219,q217 h]
 repeat' (first|with_reducible rfl|((first|rw[gd_n]|rw[og_n]|rw[gd_m]|rw[og_m]);split<;>simp only[go_sem,q218 h, *]))
 all_goals simp_all[chB]
def isName(s:ByteArray):Bool:=inB 1 16 s.size && (inB 97 122 (bAt s 0) && (allN (fun i=>nameB (bAt s i)) 1 (s.size - 1) && !decide (bAt s (s.size - 1)=45)))
def nmS(s:ByteArray)(i:Nat):Bool:=inB 97 122 (bAt s i) ||!decide ((i:Int)=0) && (inB 48 57 (bAt s i) ||decide (bAt s i=45))
theorem nmS_name(s:ByteArray):(allN (nmS s) 0 s.size && (inB 1 16 s.size && !decide (bAt s (s.size - 1)=45)))=isName s:=by
 unfold isName;by_cases h0:s.size=0
 ·have:inB 1 16 s.size=false:=by rw[h0];rfl
  rw[this];simp
 ·obtain⟨n,hn⟩:∃n,s.size=n+1:=⟨s.size - 1,by omega⟩
  have h1:allN (nmS s) 0 s.size=(inB 97 122 (bAt s 0) && allN (fun i=>nameB (bAt s i)) 1 (s.size - 1)):=by
   rw[hn];simp only[allN,Nat.zero_add,Nat.add_sub_cancel];have h2:nmS s 0=inB 97 122 (bAt s 0):=by simp[nmS]
   rw[h2,allN_congr n 1 fun j h1 h2=>?_];have:¬j=0:=by omega
   simp[nmS,nameB,this]
  rw[h1];cases inB 97 122 (bAt s 0)<;>cases allN (fun i=>nameB (bAt s i)) 1 (s.size - 1)<;>cases inB 1 16 s.size<;>simp
theorem last_ix{s:ByteArray}(h:1≤s.size)(hs:s.size≤mg):IntKind.i64.wrap ((s.size:Int) - 1)=((s.size - 1:Nat):Int):=by
 simp only[mg]at hs;rw[wrap_i64 (by omega)];omega
theorem q202{s:ByteArray}(hs:s.size≤mg):G 202 [.str s]=some (0,[.bool (isName s)]):=by
 refine gOf s202 rfl ?_;simp only[go_sem,t202];have hl:=gl_allN (b:=lB G l202_0) (fun i=>(0,[.str s,.int .i64 (i:Int)])) (nmS s) s.size (1,[.str s,.int .i64 s.size,.bool false]) (0,[.bool false]) (by
  intro i hi;have hw:=wj hi hs;simp only[go_sem,lB_,l202_0,hi,po_six,q74]
  repeat' (first|with_reducible rfl|((first|rw[gd_n]|rw[og_n]|rw[gd_m]|rw[og_m]);split<;>simp only[go_sem,po_six,q74, *]))
  all_goals simp_all[nmS]) (by simp only[go_sem,lB_,l202_0,Nat.lt_irrefl]) s.size 0 (by omega)
 rw[n0]at hl;rw[hl,← nmS_name];cases allN (nmS s) 0 s.size with
 |false=>simp only[go_sem]
 |true=>
  simp only[go_sem,q74];cases hb:inB 1 16 (s.size:Int) with
  |false=>simp only[go_sem]
  |true=>
   have h1:=(inB_iff _ _ _).1 hb;have h2:=last_ix (s:=s) (by omega) hs;simp only[go_sem,h2,po_six _ _ (show s.size - 1 < s.size by omega)]
theorem q261{s:ByteArray}(hs:s.size≤mg):G 261 [.str s]=some (0,[.bool (isName s)]):=by
 refine gOf s261 rfl ?_;simp only[go_sem,t261];by_cases h1:(s.size:Int) < 1
 ·have:inB 1 16 (s.size:Int)=false:=by simp[inB];omega
  simp only[go_sem,h1,isName,this]
 by_cases h2:16 < (s.size:Int)
 ·have:inB 1 16 (s.size:Int)=false:=by simp[inB];omega
  simp only[go_sem,h1,h2,isName,this]
 have hb:inB 1 16 (s.size:Int)=true:=by simp[inB];omega
 have hz:=po_six s 0 (by omega);rw[n0]at hz;simp only[go_sem,h1,h2,isName,hb,hz,q258];cases h3:inB 97 122 (bAt s 0) with
 |false=>simp only[go_sem]
 |true=>
  simp only[go_sem];have hl:=gl_allN (b:=lB G l261_0) (fun i=>(0,[.str s,.int .i64 (i:Int)])) (fun i=>nameB (bAt s i)) s.size (1,[.str s,.int .i64 s.size,.bool false]) (0,[.bool false]) (by
   intro i hi;have hw:=wj hi hs;simp only[go_sem,lB_,l261_0,hi,po_six,q260]
   repeat' (first|with_reducible rfl|((first|rw[gd_n]|rw[og_n]|rw[gd_m]|rw[og_m]);split<;>simp only[go_sem, *]))
   all_goals simp_all) (by simp only[go_sem,lB_,l261_0,Nat.lt_irrefl]) (s.size - 1) 1 (by omega)
  rw[n1]at hl;rw[hl];cases allN (fun i=>nameB (bAt s i)) 1 (s.size - 1) with
  |false=>simp only[go_sem]
  |true=>
   have h4:=last_ix (s:=s) (by omega) hs;simp only[go_sem,h4,po_six _ _ (show s.size - 1 < s.size by omega)]
def isText(s:ByteArray):Bool:=allN (fun i=>inB 32 126 (bAt s i)) 0 s.size && decide ((s.size:Int)≤40)
theorem q204{s:ByteArray}(hs:s.size≤mg):G 204 [.str s]=some (0,[.bool (isText s)]):=by
 refine gOf s204 rfl ?_;simp only[go_sem,t204];have hl:=gl_allN (b:=lB G l204_0) (fun i=>(0,[.str s,.int .i64 (i:Int)])) (fun i=>inB 32 126 (bAt s i)) s.size (1,[.str s,.int .i64 s.size,.bool false]) (0,[.bool false]) (by
  intro i hi;have hw:=wj hi hs;simp only[go_sem,lB_,l204_0,hi,po_six,q74]
  repeat' (first|with_reducible rfl|((first|rw[gd_n]|rw[og_n]|rw[gd_m]|rw[og_m]);split<;>simp only[go_sem, *]))
  all_goals simp_all) (by simp only[go_sem,lB_,l204_0,Nat.lt_irrefl]) s.size 0 (by omega)
 rw[n0]at hl;rw[hl];unfold isText;cases allN (fun i=>inB 32 126 (bAt s i)) 0 s.size<;>simp only[go_sem]
theorem q264{s:ByteArray}(hs:s.size≤mg):G 264 [.str s]=some (0,[.bool (isText s)]):=by
 refine gOf s264 rfl ?_;simp only[go_sem,t264];have hl:=gl_allN (b:=lB G l264_0) (fun i=>(0,[.str s,.int .i64 (i:Int)])) (fun i=>inB 32 126 (bAt s i)) s.size (1,[.str s,.int .i64 s.size,.bool false]) (0,[.bool false]) (by
  intro i hi;have hw:=wj hi hs;simp only[go_sem,lB_,l264_0,hi,po_six];by_cases h1:bAt s i < 32
  ·have:inB 32 126 (bAt s i)=false:=by simp[inB];omega
   simp only[go_sem,h1,this]
  by_cases h2:126 < bAt s i
  ·have:inB 32 126 (bAt s i)=false:=by simp[inB];omega
   simp only[go_sem,h1,h2,this,hi,po_six]
  have:inB 32 126 (bAt s i)=true:=by simp[inB];omega
  simp only[go_sem,h1,h2,this,hi,po_six,hw]) (by simp only[go_sem,lB_,l264_0,Nat.lt_irrefl]) s.size 0 (by omega)
 rw[n0]at hl;rw[hl];unfold isText;cases allN (fun i=>inB 32 126 (bAt s i)) 0 s.size<;>simp only[go_sem]
end
section
set_option maxRecDepth 100000
set_option maxHeartbeats 4000000
def ix(l:List ByteArray)(v:ByteArray):Option Nat:=fnd (fun e=>decide (v=e)) l 0
theorem fnd_some{α:Type}{p:α→Bool}:∀{l:List α} {k:Nat},(fnd p l k).isSome=l.any p
 |[],_=>rfl
 |e::l,k=>by
  simp only[fnd,List.any_cons];by_cases h:p e=true
  ·simp[h]
  ·simp[h,fnd_some (l:=l)]
def hasS(l:List ByteArray)(v:ByteArray):Bool:=l.any fun e=>decide (v=e)
theorem hasS_iff{l:List ByteArray}{v:ByteArray}:hasS l v=true↔v∈l:=by simp[hasS]
theorem hasS_no{l:List ByteArray}{v:ByteArray}:hasS l v=false↔v∉l:=by rw[← hasS_iff];simp
theorem ix_mem(l:List ByteArray)(v:ByteArray):(ix l v).isSome=hasS l v:=by rw[ix,fnd_some,hasS]
theorem q96{l:List ByteArray}{v:ByteArray}(hs:l.length≤mg):G 96 [dStrs l,.str v]=some (0,[.int .i64 (ofI (ix l v))]):=by
 refine gOf s96 rfl ?_;simp only[go_sem,t96];have hl:=gl_find0 (b:=lB G l96_0) l (fun i=>(0,[dStrs l,.str v,.int .i64 l.length,.int .i64 (i:Int)])) (fun e=>decide (v=e)) (1,[dStrs l,.str v,.int .i64 l.length,.int .i64 l.length,.bool false]) (fun i e=>(0,[.int .i64 (i:Int)])) (by
  intro i e hn;have hi:=nth_len hn;have hw:=wj hi hs;simp only[go_sem,lB_,l96_0,hi,nth_map,hn,eStr]
  repeat' (first|with_reducible rfl|((first|rw[gd_n]|rw[og_n]|rw[gd_m]|rw[og_m]);split<;>simp only[go_sem, *]))
  all_goals simp_all) (by simp only[go_sem,lB_,l96_0,Nat.lt_irrefl])
 rw[n0]at hl;rw[List.length_map,hl];unfold ix;cases hf:fnd (fun e=>decide (v=e)) l 0 with
 |none=>simp only[go_sem,ofI]
 |some j=>
  obtain⟨e,h1,h2⟩:=fnd_nth0 hf;simp only[go_sem,h1,ofI]
theorem ofI_nn(o:Option Nat):decide (0≤ofI o)=o.isSome:=by
 cases o with
 |none=>rfl
 |some j=>simp[ofI]
theorem q99{l:List ByteArray}{v:ByteArray}(hs:l.length≤mg):G 99 [dStrs l,.str v]=some (0,[.bool (hasS l v)]):=by
 refine gOf s99 rfl ?_;simp only[go_sem,t99,q96 hs,ofI_nn,ix_mem]
theorem po_cut0(k:Nat)(fl:Bool)(es:List (List D))(n:Nat)(h:n≤es.length):evPO (.cut true) [.list k fl es,.int .i64 0,.int .i64 (n:Int)]=some (.list k fl (es.take n)):=by
 simp[evPO,dI,h]
def difS(l:List ByteArray):Bool:=allI (fun i e=>!hasS (l.take i) e) 0 l
theorem nodup_take:∀(m:List ByteArray) (l:List ByteArray) ,allI (fun i e=>!hasS ((m++l).take i) e) m.length l=true↔l.Nodup∧∀e∈l,e∉m
 |m,[]=>by simp[allI]
 |m,e::l=>by
  have ih:=nodup_take (m++[e]) l;rw[List.append_assoc,List.length_append]at ih;simp only[allI,Bool.and_eq_true,List.nodup_cons];simp only[List.length_cons,List.length_nil,List.singleton_append,Nat.zero_add]at ih;rw[ih];simp only[List.take_left',Bool.not_eq_true',hasS_no,List.mem_append,List.mem_cons,List.not_mem_nil,or_false,not_or];refine⟨fun⟨h1,h2,h3⟩=>⟨⟨fun h=>(h3 e h).2 rfl,h2⟩,fun x hx=>?_⟩,fun⟨⟨h1,h2⟩,h3⟩=>⟨h3 e (.inl rfl),h2,fun x hx=>⟨h3 x (.inr hx),fun h=>h1 (h▸hx)⟩⟩⟩;rcases hx with rfl|hx
  ·exact h1
  ·exact (h3 x hx).1
theorem difS_iff(l:List ByteArray):difS l=true↔l.Nodup:=by
 have:=nodup_take [] l
 simpa [difS] using this
theorem q257{l:List ByteArray}(hs:l.length≤mg):G 257 [dStrs l]=some (0,[.bool (difS l)]):=by
 refine gOf s257 rfl ?_;simp only[go_sem,t257];have hl:=gl_allI (b:=lB G l257_0) l (fun i=>(0,[dStrs l,.int .i64 l.length,.int .i64 (i:Int)])) (fun i e=>!hasS (l.take i) e) (1,[dStrs l,.int .i64 l.length,.int .i64 l.length,.bool false]) (0,[.bool false]) (by
  intro i e hn;have hi:=nth_len hn;have hw:=wj hi hs;have hc:evPO (.cut true) [dStrs l,.int .i64 0,.int .i64 (i:Int)]=some (dStrs (l.take i)):=by
   rw[po_cut0 _ _ _ _ (by rw[List.length_map];omega),← List.map_take]
  have h99:=q99 (l:=l.take i) (v:=e) (by rw[List.length_take];omega);simp only[go_sem,lB_,l257_0,hi,nth_map,hn,eStr,hc,h99]
  repeat' (first|with_reducible rfl|((first|rw[gd_n]|rw[og_n]|rw[gd_m]|rw[og_m]);split<;>simp only[go_sem, *]))
  all_goals simp_all) (by simp only[go_sem,lB_,l257_0,Nat.lt_irrefl]) l.length 0 (by omega)
 rw[n0]at hl;rw[List.length_map,hl];rw[show difS l=allI (fun i e=>!hasS (l.take i) e) 0 (l.drop 0) from rfl];cases allI (fun i e=>!hasS (l.take i) e) 0 (l.drop 0)<;>simp only[go_sem]
theorem q271{l:List ByteArray}(hs:szl eStr l≤mg):G 271 [dStrs l]=some (0,[.bool (l.all isName)]):=by
 refine gOf s271 rfl ?_;simp only[go_sem,t271];have hlen:l.length≤mg:=by simp only[szl]at hs;omega
 have hl:=gl_all (b:=lB G l271_0) l (fun i=>(0,[dStrs l,.int .i64 l.length,.int .i64 (i:Int)])) isName (1,[dStrs l,.int .i64 l.length,.int .i64 l.length,.bool false]) (0,[.bool false]) (by
  intro i e hn;have hi:=nth_len hn;have hw:=wj hi hlen;have h261:=q261 (s:=e) (by have:=szl_str l (nth_in hn);omega);simp only[go_sem,lB_,l271_0,hi,nth_map,hn,eStr,h261]
  repeat' (first|with_reducible rfl|((first|rw[gd_n]|rw[og_n]|rw[gd_m]|rw[og_m]);split<;>simp only[go_sem, *]))
  all_goals simp_all) (by simp only[go_sem,lB_,l271_0,Nat.lt_irrefl])
 rw[n0]at hl;rw[List.length_map,hl];cases l.all isName<;>simp only[go_sem]
end
section
set_option maxRecDepth 100000
set_option maxHeartbeats 4000000
theorem gl_allJ{α σ ρ:Type}{b:σ→Option (Sg σ ρ)}(es:List α)(mk:Nat→σ)(p:Nat→α→Bool)(yes no:ρ)
  (hgo:∀i e,nth es i=some e→(∀j x,j < i→nth es j=some x→p j x=true)→b (mk i)=some (if p i e=true then .go (mk (i+1)) else .out no))
  (hend:b (mk es.length)=some (.out yes)):∀m i,i+m=es.length→(∀j x,j < i→nth es j=some x→p j x=true)→gloop b (mk i)=some (if allI p i (es.drop i)=true then yes else no)
 |0,i,h,hp=>by
  obtain rfl:i=es.length:=by omega
  rw[gloop_out hend,List.drop_length];rfl
 |m+1,i,h,hj=>by
  have a1:=nth_lt (l:=es) (i:=i) (by omega);have h1:=hgo i _ a1 hj;have e1:allI p i (es.drop i)=(p i (es[i]'(by omega)) && allI p (i+1) (es.drop (i+1))):=by rw[drop_nth es i _ a1];rfl
  rw[e1];by_cases hp:p i (es[i]'(by omega))=true
  ·rw[if_pos hp]at h1;rw[gloop_go h1,hp,Bool.true_and];refine gl_allJ es mk p yes no hgo hend m (i+1) (by omega) fun j x hjl hx=>?_;rcases Nat.lt_or_ge j i with h2|h2
   ·exact hj j x h2 hx
   ·obtain rfl:j=i:=by omega
    rw[a1]at hx;cases hx;exact hp
  ·rw[if_neg hp]at h1;rw[gloop_out h1,Bool.eq_false_iff.2 hp,Bool.false_and,if_neg Bool.false_ne_true]
theorem gl_allJ0{α σ ρ:Type}{b:σ→Option (Sg σ ρ)}(es:List α)(mk:Nat→σ)(p:Nat→α→Bool)(yes no:ρ)
  (hgo:∀i e,nth es i=some e→(∀j x,j < i→nth es j=some x→p j x=true)→b (mk i)=some (if p i e=true then .go (mk (i+1)) else .out no))
  (hend:b (mk es.length)=some (.out yes)):gloop b (mk 0)=some (if allI p 0 es=true then yes else no):=
 gl_allJ es mk p yes no hgo hend es.length 0 (by omega) fun j x h _=>by omega
def apart(l:List XRange)(i:Nat)(e:XRange):Bool:=match i with
 |0=>true
 |i+1=>match nth l i with
  |some p=>decide (p.hi+1 < e.lo)
  |none=>true
def okR(l:List XRange)(i:Nat)(e:XRange):Bool:=decide (e.lo≤e.hi) && (decide (-1000000000≤e.lo) && (decide (e.hi≤1000000000) && apart l i e))
def areR(l:List XRange):Bool:=allI (okR l) 0 l && decide (l.length≤6)
theorem okR_iff{l:List XRange}{i:Nat}{e:XRange}:okR l i e=true↔e.lo≤e.hi∧-1000000000≤e.lo∧e.hi≤1000000000∧apart l i e=true:=by
 simp[okR]
theorem okR_no1{l:List XRange}{i:Nat}{e:XRange}(h:¬(e.lo≤e.hi∧-1000000000≤e.lo∧e.hi≤1000000000)):okR l i e=false:=by
 rw[Bool.eq_false_iff];intro hk;have:=okR_iff.1 hk;exact h ⟨this.1,this.2.1,this.2.2.1⟩
theorem le6(n:Nat):decide ((n:Int)≤6)=decide (n≤6):=by
 rw[Bool.eq_iff_iff];simp
 omega
theorem q215{l:List XRange}(hs:l.length≤mg):G 215 [dRanges l]=some (0,[.bool (areR l)]):=by
 refine gOf s215 rfl ?_;simp only[go_sem,t215];have hl:=gl_allJ0 (b:=lB G l215_0) l (fun i=>(0,[dRanges l,.int .i64 (i:Int)])) (okR l) (1,[dRanges l,.int .i64 l.length,.bool false]) (0,[.bool false]) (by
  intro i e hn hj;have hi:=nth_len hn;have hw:=wj hi hs;simp only[go_sem,lB_,l215_0,hi,nth_map,hn,eRange,List.length_map];by_cases h1:e.hi < e.lo
  ·simp only[go_sem,h1,okR_no1 (l:=l) (i:=i) (e:=e) (by omega)]
  by_cases h2:e.lo < -1000000000
  ·simp only[go_sem,h1,h2,okR_no1 (l:=l) (i:=i) (e:=e) (by omega),nth_map,hn,eRange]
  by_cases h3:1000000000 < e.hi
  ·simp only[go_sem,h1,h2,h3,okR_no1 (l:=l) (i:=i) (e:=e) (by omega),nth_map,hn,eRange]
  cases i with
  |zero=>
   have hk:okR l 0 e=true:=okR_iff.2 ⟨by omega,by omega,by omega,rfl⟩;simp only[go_sem,h1,h2,h3,hk,nth_map,hn,eRange,n0,Int.lt_irrefl];simp only[go_sem,n0]at hw;rw[hw]
  |succ i=>
   have a1:=nth_lt (l:=l) (i:=i) (by omega);have hp:=okR_iff.1 (hj i _ (by omega) a1);generalize l[i]'(by omega)=p at a1 hp;have e1:IntKind.i64.wrap (((i+1:Nat):Int) - 1)=(i:Int):=by rw[wrap_i64 (by simp only[mg]at hs;omega)];omega
   have e2:IntKind.i64.wrap (p.hi+1)=p.hi+1:=wrap_i64 (by omega);have e3:(0:Int) < ((i+1:Nat):Int):=by omega
   by_cases h4:e.lo≤p.hi+1
   ·have hk:okR l (i+1) e=false:=by
     simp only[okR,apart,a1];have:decide (p.hi+1 < e.lo)=false:=by simp;omega
     simp[this]
    simp only[go_sem,h1,h2,h3,h4,hk,nth_map,hn,eRange,e1,e2,e3,a1]
   ·have hk:okR l (i+1) e=true:=okR_iff.2 ⟨by omega,by omega,by omega,by simp only[apart,a1];simp;omega⟩;simp only[go_sem,h1,h2,h3,h4,hk,nth_map,hn,eRange,e1,e2,e3,a1,hw]) (by simp only[go_sem,lB_,l215_0,Nat.lt_irrefl,List.length_map])
 rw[n0]at hl;rw[hl];unfold areR;cases allI (okR l) 0 l with
 |false=>simp only[go_sem]
 |true=>simp only[go_sem,List.length_map,le6]
theorem q273(n:Int):G 273 [.int .i64 n]=some (0,[.bool (inB (-1000000000) 1000000000 n)]):=by
 refine gOf s273 rfl ?_;simp only[go_sem,t273];unfold inB;by_cases h:-1000000000≤n
 ·simp only[go_sem,h]
 ·simp only[go_sem,h]
theorem q274{l:List XRange}(hs:l.length≤mg):G 274 [dRanges l]=some (0,[.bool (areR l)]):=by
 refine gOf s274 rfl ?_;simp only[go_sem,t274];have hl:=gl_allJ0 (b:=lB G l274_0) l (fun i=>(0,[dRanges l,dRanges l,.int .i64 l.length,.int .i64 (i:Int)])) (okR l) (1,[dRanges l,dRanges l,.int .i64 l.length,.int .i64 l.length,.bool false]) (0,[.bool false]) (by
  intro i e hn hj;have hi:=nth_len hn;have hw:=wj hi hs;simp only[go_sem,lB_,l274_0,hi,nth_map,hn,eRange,List.length_cons,List.length_nil,Nat.le_refl];by_cases h1:e.hi < e.lo
  ·simp only[go_sem,h1,okR_no1 (l:=l) (i:=i) (e:=e) (by omega)]
  simp only[go_sem,h1,q273];cases b1:inB (-1000000000) 1000000000 e.lo with
  |false=>
   have:¬(-1000000000≤e.lo∧e.lo≤1000000000):=fun h=>by rw[(inB_iff _ _ _).2 h]at b1;cases b1
   simp only[go_sem,okR_no1 (l:=l) (i:=i) (e:=e) (by omega)]
  |true=>
   have g1:=(inB_iff _ _ _).1 b1;simp only[go_sem,q273];cases b2:inB (-1000000000) 1000000000 e.hi with
   |false=>
    have:¬(-1000000000≤e.hi∧e.hi≤1000000000):=fun h=>by rw[(inB_iff _ _ _).2 h]at b2;cases b2
    simp only[go_sem,okR_no1 (l:=l) (i:=i) (e:=e) (by omega)]
   |true=>
    have g2:=(inB_iff _ _ _).1 b2;simp only[go_sem];cases i with
    |zero=>
     have hk:okR l 0 e=true:=okR_iff.2 ⟨by omega,by omega,by omega,rfl⟩;simp only[go_sem,hk,n0,Int.lt_irrefl];simp only[go_sem,n0]at hw;rw[hw]
    |succ i=>
     have a1:=nth_lt (l:=l) (i:=i) (by omega);have hp:=okR_iff.1 (hj i _ (by omega) a1);generalize l[i]'(by omega)=p at a1 hp;have e1:IntKind.i64.wrap (((i+1:Nat):Int) - 1)=(i:Int):=by rw[wrap_i64 (by simp only[mg]at hs;omega)];omega
     have e2:IntKind.i64.wrap (p.hi+2)=p.hi+2:=wrap_i64 (by omega);have e3:(0:Int) < ((i+1:Nat):Int):=by omega
     by_cases h4:e.lo < p.hi+2
     ·have hk:okR l (i+1) e=false:=by
       simp only[okR,apart,a1];have:decide (p.hi+1 < e.lo)=false:=by simp;omega
       simp[this]
      simp only[go_sem,h4,hk,nth_map,eRange,e1,e2,e3,a1]
     ·have hk:okR l (i+1) e=true:=okR_iff.2 ⟨by omega,by omega,by omega,by simp only[apart,a1];simp;omega⟩;simp only[go_sem,h4,hk,nth_map,eRange,e1,e2,e3,a1,hw]) (by simp only[go_sem,lB_,l274_0,Nat.lt_irrefl])
 rw[n0]at hl;rw[List.length_map,hl];unfold areR;cases allI (okR l) 0 l with
 |false=>simp only[go_sem]
 |true=>simp only[go_sem,List.length_map,le6]
def inR(l:List XRange)(n:Int):Bool:=l.any (fun e=>inB e.lo e.hi n) ||l.isEmpty
theorem len0{α:Type}(l:List α):decide ((l.length:Int)=0)=l.isEmpty:=by cases l<;>simp;omega
theorem gl_anyB{α σ ρ:Type}{b:σ→Option (Sg σ ρ)}(es:List α)(mk:Nat→σ)(p:α→Bool)(none_ hit:ρ)
  (hgo:∀i e,nth es i=some e→b (mk i)=some (if p e=true then .out hit else .go (mk (i+1))))
  (hend:b (mk es.length)=some (.out none_)):gloop b (mk 0)=some (if es.any p=true then hit else none_):=by
 rw[gl_find0 es mk p none_ (fun _ _=>hit) hgo hend,← fnd_some (k:=0)];cases hf:fnd p es 0 with
 |none=>rfl
 |some j=>
  obtain⟨e,h1,h2⟩:=fnd_nth0 hf;simp[h1]
theorem q232{l:List XRange}{n:Int}(hs:l.length≤mg):G 232 [dRanges l,.int .i64 n]=some (0,[.bool (inR l n)]):=by
 refine gOf s232 rfl ?_;simp only[go_sem,t232];have hl:=gl_anyB (b:=lB G l232_0) l (fun i=>(0,[dRanges l,.int .i64 n,.int .i64 (i:Int)])) (fun e=>inB e.lo e.hi n) (1,[dRanges l,.int .i64 n,.int .i64 l.length,.bool false]) (0,[.bool true]) (by
  intro i e hn;have hi:=nth_len hn;have hw:=wj hi hs;simp only[go_sem,lB_,l232_0,hi,nth_map,hn,eRange,List.length_map,q74];cases hb:inB e.lo e.hi n<;>simp only[go_sem,hw]) (by simp only[go_sem,lB_,l232_0,Nat.lt_irrefl,List.length_map])
 rw[n0]at hl;rw[hl];unfold inR;cases l.any (fun e=>inB e.lo e.hi n) with
 |true=>simp only[go_sem]
 |false=>simp only[go_sem,List.length_map,len0]
theorem q288{l:List XRange}{n:Int}(hs:l.length≤mg):G 288 [dRanges l,.int .i64 n]=some (0,[.bool (inR l n)]):=by
 refine gOf s288 rfl ?_;simp only[go_sem,t288];have hl:=gl_anyB (b:=lB G l288_0) l (fun i=>(0,[dRanges l,.int .i64 n,dRanges l,.int .i64 l.length,.int .i64 (i:Int)])) (fun e=>inB e.lo e.hi n) (1,[dRanges l,.int .i64 n,dRanges l,.int .i64 l.length,.int .i64 l.length,.bool false]) (0,[.bool true]) (by
  intro i e hn;have hi:=nth_len hn;have hw:=wj hi hs;simp only[go_sem,lB_,l288_0,hi,nth_map,hn,eRange,List.length_cons,List.length_nil,Nat.le_refl];unfold inB;by_cases h1:e.lo≤n
  ·by_cases h2:n≤e.hi<;>simp only[go_sem,h1,h2,hw]
  ·simp only[go_sem,h1,hw]) (by simp only[go_sem,lB_,l288_0,Nat.lt_irrefl])
 rw[n0]at hl;rw[List.length_map,hl];unfold inR;cases l.any (fun e=>inB e.lo e.hi n) with
 |true=>simp only[go_sem]
 |false=>simp only[go_sem,List.length_map,len0]
end
section
set_option maxRecDepth 100000
set_option maxHeartbeats 4000000
def dg(s:ByteArray):Nat→Nat→Int→Option Int
 |_,0,n=>some n
 |i,m+1,n=>if inB 48 57 (bAt s i)=true then (if 1000000000 < 10 * n+(bAt s i - 48) then none else dg s (i+1) m (10 * n+(bAt s i - 48))) else none
def dgR(s:ByteArray):Option Int→Nat×List D
 |some r=>(1,[.str s,.int .i64 r,.int .i64 s.size,.bool false])
 |none=>(0,[.int .i64 0,.bool false])
theorem dg_loop{s:ByteArray}(hs:s.size≤mg):∀(m i:Nat) (n:Int),i+m=s.size→0≤n→n≤1000000000→
  gloop (lB G l229_0) (0,[.str s,.int .i64 n,.int .i64 (i:Int)])=some (dgR s (dg s i m n))
 |0,i,n,h,h0,h1=>by
  obtain rfl:i=s.size:=by omega
  refine gloop_out ?_;simp only[go_sem,lB_,l229_0,Nat.lt_irrefl,dg,dgR]
 |m+1,i,n,h,h0,h1=>by
  have hi:i < s.size:=by omega
  have hw:=wj hi hs;have hb:=bAt_bd s i;cases hd:inB 48 57 (bAt s i) with
  |false=>
   refine (gloop_out (r:=(0,[.int .i64 0,.bool false])) ?_).trans (by simp[dg,hd,dgR]);simp only[go_sem,lB_,l229_0,hi,po_six,q74,hd]
  |true=>
   have h2:=(inB_iff _ _ _).1 hd;have e1:IntKind.i64.wrap (10 * n)=10 * n:=wrap_i64 (by omega);have e2:IntKind.u8.wrap (bAt s i - 48)=bAt s i - 48:=wrap_u8 (by omega);have e3:IntKind.i64.wrap (bAt s i - 48)=bAt s i - 48:=wrap_i64 (by omega);have e4:IntKind.i64.wrap (10 * n+(bAt s i - 48))=10 * n+(bAt s i - 48):=wrap_i64 (by omega);by_cases h3:1000000000 < 10 * n+(bAt s i - 48)
   ·refine (gloop_out (r:=(0,[.int .i64 0,.bool false])) ?_).trans (by simp[dg,hd,dgR,h3]);simp only[go_sem,lB_,l229_0,hi,po_six,q74,hd,e1,e2,e3,e4,h3]
   ·rw[show dg s i (m+1) n=dg s (i+1) m (10 * n+(bAt s i - 48)) by simp[dg,hd,h3],← dg_loop hs m (i+1) _ (by omega) (by omega) (by omega)];refine gloop_go ?_;simp only[go_sem,lB_,l229_0,hi,po_six,q74,hd,e1,e2,e3,e4,h3,hw]
def rdD(s:ByteArray):Option Int:=if s.size=0 then none else dg s 0 s.size 0
def numR:Option Int→List D
 |some n=>[.int .i64 n,.bool true]
 |none=>[.int .i64 0,.bool false]
theorem gt0(n:Nat):decide (0 < (n:Int))=!decide (n=0):=by
 rw[Bool.eq_iff_iff];simp;omega
theorem q229{s:ByteArray}(hs:s.size≤mg):G 229 [.str s]=some (0,numR (rdD s)):=by
 refine gOf s229 rfl ?_;simp only[go_sem,t229];have hl:=dg_loop hs s.size 0 0 (by omega) (by omega) (by omega);rw[n0]at hl;rw[hl];unfold rdD;by_cases h0:s.size=0
 ·rw[if_pos h0,h0];simp only[go_sem,dg,dgR,numR,h0,n0,Int.lt_irrefl]
 ·rw[if_neg h0];cases dg s 0 s.size 0 with
  |none=>simp only[go_sem,dgR,numR]
  |some n=>
   have:(0:Int) < (s.size:Int):=by omega
   simp only[go_sem,dgR,numR,this]
theorem dg_range{s:ByteArray}:∀(m i:Nat) (n r:Int),0≤n→n≤1000000000→dg s i m n=some r→0≤r∧r≤1000000000
 |0,i,n,r,h0,h1,h=>by cases h;exact⟨h0,h1⟩
 |m+1,i,n,r,h0,h1,h=>by
  simp only[dg]at h
  split at h
  ·rename_i hd;have h2:=(inB_iff _ _ _).1 hd
   split at h
   ·cases h
   ·exact dg_range m (i+1) _ r (by omega) (by omega) h
  ·cases h
theorem rdD_range{s:ByteArray}{r:Int}(h:rdD s=some r):0≤r∧r≤1000000000:=by
 unfold rdD at h
 split at h
 ·cases h
 ·exact dg_range _ _ _ _ (by omega) (by omega) h
def sgn(s:ByteArray):Bool:=!decide (s.size=0) && (decide (bAt s 0=45) ||decide (bAt s 0=43))
def tl(s:ByteArray):ByteArray:=s.extract 1 s.size
theorem tl_size(s:ByteArray):(tl s).size=s.size - 1:=by simp[tl]
def rdI(s:ByteArray):Option Int:=(rdD (if sgn s=true then tl s else s)).map fun n=>if bAt s 0=45 then -n else n
theorem po_ssl1(t:ByteArray)(h:1≤t.size):evPO (.ssl false) [.str t,.int .i64 1]=some (.str (tl t)):=by
 simp[evPO,dI,tl,h]
theorem po_six0{t:ByteArray}(h:0 < t.size):evPO .six [.str t,.int .i64 0]=some (.int .u8 (bAt t 0)):=po_six t 0 h
theorem rdI_range{s:ByteArray}{r:Int}(h:rdI s=some r):-1000000000≤r∧r≤1000000000:=by
 obtain⟨n,h1,rfl⟩:=Option.map_eq_some_iff.1 h;have:=rdD_range h1
 split<;>omega
theorem rdD_pos{s:ByteArray}{r:Int}(h:rdD s=some r):0 < s.size:=by
 unfold rdD at h
 split at h
 ·cases h
 ·omega
theorem q230{s:ByteArray}(hs:s.size≤mg):G 230 [.str s]=some (0,numR (rdI s)):=by
 refine gOf s230 rfl ?_;simp only[go_sem,t230];have ht:=q229 (s:=tl s) (by rw[tl_size];omega);by_cases h0:s.size=0
 ·have hr:rdI s=none:=by simp[rdI,sgn,h0,rdD]
  have hd:rdD s=none:=by simp[rdD,h0]
  rw[hr];simp only[go_sem,gt0,h0,q229 hs,hd,numR]
 ·have hp:0 < s.size:=by omega
  simp only[go_sem,gt0,h0,po_six0 hp];by_cases h1:bAt s 0=45
  ·have hsg:sgn s=true:=by simp[sgn,h0,h1]
   simp only[go_sem,h1,po_ssl1 s hp,ht,rdI,hsg];cases hr:rdD (tl s) with
   |none=>simp only[go_sem,numR]
   |some n=>
    have:=rdD_range hr;have hw:IntKind.i64.wrap (-n)=-n:=wrap_i64 (by omega);simp only[go_sem,numR,po_six0 hp,h1,hw]
  ·by_cases h2:bAt s 0=43
   ·have hsg:sgn s=true:=by simp[sgn,h0,h2]
    simp only[go_sem,h2,po_ssl1 s hp,ht,rdI,hsg,po_six0 hp];cases hr:rdD (tl s) with
    |none=>simp only[go_sem,numR]
    |some n=>simp only[go_sem,numR,po_six0 hp,h2]
   ·have hsg:sgn s=false:=by simp[sgn,h1,h2]
    simp only[go_sem,h1,h2,q229 hs,rdI,hsg,po_six0 hp];cases hr:rdD s with
    |none=>simp only[go_sem,numR]
    |some n=>simp only[go_sem,numR,po_six0 hp,h1]
def di(s:ByteArray):Nat→Nat→Int→Option Int
 |_,0,n=>some n
 |i,m+1,n=>if inB 48 57 (bAt s i)=true then di s (i+1) m (if n≤1000000000 then n * 10+(bAt s i - 48) else n) else none
theorem di_big(s:ByteArray):∀(m i:Nat) (n r:Int),1000000000 < n→di s i m n=some r→r=n
 |0,i,n,r,h,hd=>by cases hd;rfl
 |m+1,i,n,r,h,hd=>by
  simp only[di]at hd
  split at hd
  ·rw[if_neg (by omega)]at hd;exact di_big s m (i+1) n r h hd
  ·cases hd
theorem di_dg(s:ByteArray):∀(m i:Nat) (n:Int),0≤n→n≤1000000000→(match di s i m n with|some r=>if 1000000000 < r then none else some r|none=>none)=dg s i m n
 |0,i,n,h0,h1=>by
  simp only[di,dg];rw[if_neg (by omega)]
 |m+1,i,n,h0,h1=>by
  simp only[di,dg];cases hd:inB 48 57 (bAt s i) with
  |false=>simp
  |true=>
   have h2:=(inB_iff _ _ _).1 hd;simp only[if_true];rw[if_pos h1,show n * 10+(bAt s i - 48)=10 * n+(bAt s i - 48) by omega];by_cases h3:1000000000 < 10 * n+(bAt s i - 48)
   ·rw[if_pos h3];cases hr:di s (i+1) m (10 * n+(bAt s i - 48)) with
    |none=>rfl
    |some r=>
     rw[di_big s m (i+1) _ r h3 hr];simp only[if_pos h3]
   ·rw[if_neg h3];exact di_dg s m (i+1) _ (by omega) (by omega)
def diR(s:ByteArray)(b:Bool):Option Int→Nat×List D
 |some r=>(1,[.str s,.bool b,.int .i64 r,.int .i64 s.size,.bool false])
 |none=>(0,[.int .i64 0,.bool false])
theorem l287_eq:l287_1=l287_0:=(rfl)
theorem di_loop{s:ByteArray}(hs:s.size≤mg)(b:Bool):∀(m i:Nat) (n:Int),i+m=s.size→0≤n→n≤10000000009→
  gloop (lB G l287_0) (0,[.str s,.bool b,.int .i64 n,.int .i64 (i:Int)])=some (diR s b (di s i m n))
 |0,i,n,h,h0,h1=>by
  obtain rfl:i=s.size:=by omega
  refine gloop_out ?_;simp only[go_sem,lB_,l287_0,Nat.lt_irrefl,di,diR]
 |m+1,i,n,h,h0,h1=>by
  have hi:i < s.size:=by omega
  have hw:=wj hi hs;have hb:=bAt_bd s i;by_cases d1:bAt s i < 48
  ·have hd:inB 48 57 (bAt s i)=false:=by simp[inB];omega
   refine (gloop_out (r:=(0,[.int .i64 0,.bool false])) ?_).trans (by simp[di,hd,diR]);simp only[go_sem,lB_,l287_0,hi,po_six,d1]
  ·by_cases d2:57 < bAt s i
   ·have hd:inB 48 57 (bAt s i)=false:=by simp[inB];omega
    refine (gloop_out (r:=(0,[.int .i64 0,.bool false])) ?_).trans (by simp[di,hd,diR]);simp only[go_sem,lB_,l287_0,hi,po_six,d1,d2]
   ·have hd:inB 48 57 (bAt s i)=true:=by simp[inB];omega
    have e1:n≤1000000000→IntKind.i64.wrap (n * 10)=n * 10:=fun h=>wrap_i64 (by omega);have e2:IntKind.u8.wrap (bAt s i - 48)=bAt s i - 48:=wrap_u8 (by omega);have e3:IntKind.i64.wrap (bAt s i - 48)=bAt s i - 48:=wrap_i64 (by omega);have e4:n≤1000000000→IntKind.i64.wrap (n * 10+(bAt s i - 48))=n * 10+(bAt s i - 48):=fun h=>wrap_i64 (by omega);by_cases h3:n≤1000000000
    ·rw[show di s i (m+1) n=di s (i+1) m (n * 10+(bAt s i - 48)) by simp[di,hd,h3],← di_loop hs b m (i+1) _ (by omega) (by omega) (by omega)];refine gloop_go ?_;simp only[go_sem,lB_,l287_0,hi,po_six,d1,d2,e1 h3,e2,e3,e4 h3,h3,hw]
    ·rw[show di s i (m+1) n=di s (i+1) m n by simp[di,hd,h3],← di_loop hs b m (i+1) _ (by omega) (by omega) (by omega)];refine gloop_go ?_;simp only[go_sem,lB_,l287_0,hi,po_six,d1,d2,h3,hw]
theorem nstr0(s:ByteArray):decide (s=⟨#[]⟩)=decide (s.size=0):=by
 rw[Bool.eq_iff_iff];simp only[decide_eq_true_eq];refine⟨fun h=>by rw[h];rfl,fun h=>?_⟩;cases s with
 |mk a=>simp[ByteArray.size]at h;rw[h]
theorem ba0:(⟨[].toArray⟩:ByteArray)=⟨#[]⟩:=(rfl)
attribute [go_sem] ba0 nstr0 l287_eq
theorem q287{s:ByteArray}(hs:s.size≤mg):G 287 [.str s]=some (0,numR (rdI s)):=by
 refine gOf s287 rfl ?_;simp only[go_sem,t287];have fin:∀(t:ByteArray) (b:Bool),t.size≤mg→(match di t 0 t.size 0 with|some r=>if 1000000000 < r then none else some r|none=>none)=dg t 0 t.size 0:=fun t b ht=>di_dg t t.size 0 0 (by omega) (by omega);by_cases h0:s.size=0
 ·have hr:rdI s=none:=by simp[rdI,sgn,h0,rdD]
  rw[hr];simp only[go_sem,h0,numR]
 ·have hp:0 < s.size:=by omega
  simp only[go_sem,h0,po_six0 hp];by_cases h1:bAt s 0=45
  ·have hsg:sgn s=true:=by simp[sgn,h0,h1]
   have hsz:(tl s).size≤mg:=by rw[tl_size];omega
   have hf:=fin (tl s) true hsz;have hl:=di_loop hsz true (tl s).size 0 0 (by omega) (by omega) (by omega);rw[n0]at hl;simp only[go_sem,h1,po_ssl1 s hp,po_six0 hp,rdI,hsg];by_cases ht:(tl s).size=0
   ·simp only[go_sem,ht,rdD,numR]
   ·simp only[go_sem,ht,rdD,hl];rw[← hf];cases hr:di (tl s) 0 (tl s).size 0 with
    |none=>simp only[go_sem,diR,numR]
    |some n=>
     by_cases hm:1000000000 < n
     ·simp only[go_sem,diR,numR,hm]
     ·have h9:dg (tl s) 0 (tl s).size 0=some n:=by rw[← hf,hr];simp[hm]
      have:=dg_range _ _ _ _ (by omega) (by omega) h9;have hw:IntKind.i64.wrap (-n)=-n:=wrap_i64 (by omega);simp only[go_sem,diR,numR,hm,hw]
  ·by_cases h2:bAt s 0=43
   ·have hsg:sgn s=true:=by simp[sgn,h0,h2]
    have hsz:(tl s).size≤mg:=by rw[tl_size];omega
    have hf:=fin (tl s) false hsz;have hl:=di_loop hsz false (tl s).size 0 0 (by omega) (by omega) (by omega);rw[n0]at hl;simp only[go_sem,h2,po_ssl1 s hp,po_six0 hp,rdI,hsg];by_cases ht:(tl s).size=0
    ·simp only[go_sem,ht,rdD,numR]
    ·simp only[go_sem,ht,rdD,hl];rw[← hf];cases hr:di (tl s) 0 (tl s).size 0 with
     |none=>simp only[go_sem,diR,numR]
     |some n=>by_cases hm:1000000000 < n<;>simp only[go_sem,diR,numR,hm]
   ·have hsg:sgn s=false:=by simp[sgn,h1,h2]
    have hf:=fin s false hs;have hl:=di_loop hs false s.size 0 0 (by omega) (by omega) (by omega);rw[n0]at hl;simp only[go_sem,h1,h2,rdI,hsg,h0,rdD,hl,po_six0 hp];rw[← hf];cases hr:di s 0 s.size 0 with
    |none=>simp only[go_sem,diR,numR]
    |some n=>by_cases hm:1000000000 < n<;>simp only[go_sem,diR,numR,hm]
end
section
set_option maxRecDepth 100000
set_option maxHeartbeats 4000000
def bA(l:List UInt8):ByteArray:=⟨l.toArray⟩
theorem bA_app(l m:List UInt8)(s:ByteArray):bA l++(bA m++s)=bA (l++m)++s:=by
 apply ByteArray.ext
 simp only[bA,ByteArray.data_append];rw[← Array.append_assoc];simp
def fmtI(n:Int):ByteArray:=bA (Lib.itoa n)
def decD(u:Nat):List UInt8:=if u=0 then [] else Lib.decDigits u
theorem decD_step{u:Nat}(h:u≠0):decD u=decD (u / 10)++[UInt8.ofNat (48+u % 10)]:=by
 unfold decD;rw[if_neg h];rw[Lib.decDigits];by_cases h1:u < 10
 ·have:u / 10=0:=by omega
  rw[dif_pos h1,if_pos this,show u % 10=u by omega];rfl
 ·have:u / 10≠0:=by omega
  rw[dif_neg h1,if_neg this]
theorem po_bts1(c:Int):evPO .bts [.list 1 true [[.int .u8 c]]]=some (.str (bA [UInt8.ofNat c.toNat])):=by
 simp[evPO,bytesOf,bA]
theorem po_mkl1(k:IntKind)(c:Int):evPO (.mkl 1 true) [.int k c]=some (.list 1 true [[.int k c]]):=by
 simp[evPO,chunk,plains,D.plain]
theorem dig_len:∀(k u:Nat),u < 10 ^ (k+1)→(Lib.decDigits u).length≤k+1
 |0,u,h=>by rw[Lib.decDigits,dif_pos (by omega)];simp
 |k+1,u,h=>by
  rw[Lib.decDigits];split
  ·simp
  ·have:=dig_len k (u / 10) (by rw[Nat.pow_succ]at h;omega);simp only[List.length_append,List.length_cons,List.length_nil];omega
theorem bA_size(l:List UInt8):(bA l).size=l.length:=by simp[bA,ByteArray.size]
theorem fi_step{n:Int}{h:Nat}{u:Nat}{s:ByteArray}{x:Int}{zs:List D}(hz:(h=0∧zs=[])∨(h=1∧∃z,zs=[z]))(hu:0 < u)(hb:u≤1000000000)(hs:s.size≤20)(hx:x=(u:Int)∨x=-(u:Int)) :
  ∃z x',(x'=((u / 10:Nat):Int)∨x'=-((u / 10:Nat):Int))∧lB G l231_0 (h,[.int .i64 n,.str s,.int .i64 x]++zs)=some (.go (1,[.int .i64 n,.str (bA [UInt8.ofNat (48+u % 10)]++s),.int .i64 x',z])):=by
 have hm:u % 10 < 10:=Nat.mod_lt _ (by omega);have e1:IntKind.i64.wrap (48+((u % 10:Nat):Int))=((48+u % 10:Nat):Int):=by rw[wrap_i64 (by omega)];omega
 have e2:IntKind.u8.wrap ((48+u % 10:Nat):Int)=((48+u % 10:Nat):Int):=wrap_u8 (by omega);have e3:(((48+u % 10:Nat):Int)).toNat=48+u % 10:=Int.toNat_natCast _;have e4:IntKind.i64.wrap ((u % 10:Nat):Int)=((u % 10:Nat):Int):=wrap_i64 (by omega);have hadd:(bA [UInt8.ofNat (48+u % 10)]).size+s.size≤maxLen:=by rw[bA_size];simp only[List.length_cons,List.length_nil];exact Nat.le_trans (show 0+1+s.size≤21 by omega) (by decide)
 have m1:(u:Int) % 10=((u % 10:Nat):Int):=rfl;have m2:(u:Int) / 10=((u / 10:Nat):Int):=rfl;have p0:0≤(u:Int):=by omega
 have n1:¬0≤-(u:Int):=by omega
 have n2:-(u:Int) < 0:=by omega
 rcases hx with rfl|rfl
 ·have d1:¬(u:Int)=0:=by omega
  have d2:¬((u % 10:Nat):Int) < 0:=by omega
  refine⟨.list 1 true [[.int .u8 ((48+u % 10:Nat):Int)]],_,.inl rfl,?_⟩;rcases hz with ⟨rfl,rfl⟩|⟨rfl,z,rfl⟩
  ·simp only[go_sem,lB_,l231_0,d1,p0,m1,m2,d2,e1,e2,e3,hadd,po_mkl1,po_bts1]
  ·simp only[go_sem,lB_,l231_0,d1,p0,m1,m2,d2,e1,e2,e3,hadd,po_mkl1,po_bts1]
 ·have d1:¬-(u:Int)=0:=by omega
  refine⟨.list 1 true [[.int .u8 ((48+u % 10:Nat):Int)]],_,.inr rfl,?_⟩;by_cases d2:-((u % 10:Nat):Int) < 0
  ·rcases hz with ⟨rfl,rfl⟩|⟨rfl,z,rfl⟩
   ·simp only[go_sem,lB_,l231_0,d1,n1,n2,m1,m2,Int.neg_neg,d2,e1,e2,e3,e4,hadd,po_mkl1,po_bts1]
   ·simp only[go_sem,lB_,l231_0,d1,n1,n2,m1,m2,Int.neg_neg,d2,e1,e2,e3,e4,hadd,po_mkl1,po_bts1]
  ·have e5:-((u % 10:Nat):Int)=((u % 10:Nat):Int):=by omega
   rw[e5]at d2;rcases hz with ⟨rfl,rfl⟩|⟨rfl,z,rfl⟩
   ·simp only[go_sem,lB_,l231_0,d1,n1,n2,m1,m2,Int.neg_neg,e5,d2,e1,e2,e3,hadd,po_mkl1,po_bts1]
   ·simp only[go_sem,lB_,l231_0,d1,n1,n2,m1,m2,Int.neg_neg,e5,d2,e1,e2,e3,hadd,po_mkl1,po_bts1]
theorem fi_loop{n:Int}:∀(k u:Nat) (s:ByteArray) (x:Int) (z:D),u < 10 ^ k→k≤10→s.size+k≤20→u≤1000000000→(x=(u:Int)∨x=-(u:Int))→
  ∃z',gloop (lB G l231_0) (1,[.int .i64 n,.str s,.int .i64 x,z])=some (1,[.int .i64 n,.str (bA (decD u)++s),.int .i64 0,.bool false,z'])
 |k,u,s,x,z,hu,hk,hs,hb,hx=>by
  by_cases h0:u=0
  ·obtain rfl:x=0:=by omega
   refine⟨z,gloop_out ?_⟩;have:bA (decD u)++s=s:=by rw[h0];apply ByteArray.ext;simp[decD,bA,ByteArray.data_append]
   rw[this];simp only[go_sem,lB_,l231_0]
  ·cases k with
   |zero=>omega
   |succ k=>
    obtain⟨z1,x',hx',h1⟩:=fi_step (n:=n) (h:=1) (u:=u) (s:=s) (x:=x) (zs:=[z]) (.inr ⟨rfl,z,rfl⟩) (by omega) hb (by omega) hx;rw[Nat.pow_succ]at hu;obtain⟨z2,h2⟩:=fi_loop k (u / 10) (bA [UInt8.ofNat (48+u % 10)]++s) x' z1 (by omega) (by omega) (by rw[ByteArray.size_append,bA_size];simp only[List.length_cons,List.length_nil];omega) (by omega) hx';refine⟨z2,?_⟩;rw[decD_step h0,← bA_app,← h2];exact gloop_go h1
theorem q231{n:Int}(hn:-1000000000≤n∧n≤1000000000):G 231 [.int .i64 n]=some (0,[.str (fmtI n)]):=by
 refine gOf s231 rfl ?_;simp only[go_sem,t231];by_cases h0:n=0
 ·subst h0;have hf:fmtI 0=⟨#[48]⟩:=by
   unfold fmtI Lib.itoa;rw[if_neg (by omega)];show bA (Lib.decDigits 0)=_;rw[Lib.decDigits_one (by decide)];rfl
  rw[hf];simp only[go_sem]
 ·simp only[go_sem,h0];have hu:n.natAbs≤1000000000:=by omega
  obtain⟨z1,x',hx',h1⟩:=fi_step (n:=n) (h:=0) (u:=n.natAbs) (s:=⟨#[]⟩) (x:=n) (zs:=[]) (.inl ⟨rfl,rfl⟩) (by omega) hu (by simp[ByteArray.size]) (by omega);have hlt:n.natAbs / 10 < 10 ^ 9:=by omega
  obtain⟨z2,h2⟩:=fi_loop (n:=n) 9 (n.natAbs / 10) (bA [UInt8.ofNat (48+n.natAbs % 10)]++⟨#[]⟩) x' z1 hlt (by omega) (by rw[ByteArray.size_append,bA_size];simp[ByteArray.size]) (by omega) hx';have h3:gloop (lB G l231_0) (0,[.int .i64 n,.str ⟨#[]⟩,.int .i64 n])=some (1,[.int .i64 n,.str (bA (decD n.natAbs)),.int .i64 0,.bool false,z2]):=by
   have h1':lB G l231_0 (0,[.int .i64 n,.str ⟨#[]⟩,.int .i64 n])=_:=h1;rw[gloop_go h1',h2,bA_app,← decD_step (by omega)]
   congr 5
   apply ByteArray.ext
   simp[bA,ByteArray.data_append]
  rw[h3];have hd:decD n.natAbs=Lib.decDigits n.natAbs:=by rw[decD,if_neg (by omega)]
  rw[hd];by_cases h4:n < 0
  ·have hf:fmtI n=bA [45]++bA (Lib.decDigits n.natAbs):=by
    unfold fmtI Lib.itoa;rw[if_pos h4]
    apply ByteArray.ext
    simp[bA,ByteArray.data_append]
   have hl:(Lib.decDigits n.natAbs).length≤10:=dig_len 9 _ (by omega);have hadd:(bA [45]).size+(bA (Lib.decDigits n.natAbs)).size≤maxLen:=by rw[bA_size,bA_size];simp only[List.length_cons,List.length_nil];exact Nat.le_trans (show 0+1+(Lib.decDigits n.natAbs).length≤11 by omega) (by decide)
   rw[hf];have e0:(⟨[(45:UInt8)].toArray⟩:ByteArray)=bA [45]:=rfl;simp only[go_sem,h4,e0,hadd]
  ·have hf:fmtI n=bA (Lib.decDigits n.natAbs):=by
    unfold fmtI Lib.itoa;rw[if_neg h4]
    congr 2
    omega
   rw[hf];simp only[go_sem,h4]
theorem q9001(n:Int):G 9001 [.int .i64 n]=some (0,[.str (fmtI n)]):=
 GF_lim (i:=9001) (sg:=⟨9001,[.val false [.d]],[([.val false [.d]],[])]⟩) (v:=([.val false [.d]],[])) (j:=0) (r:=([.val false [.d (.str (fmtI n))]],[])) (ws:=[.int .i64 n]) rfl rfl ((lim_x T rfl [.val false [.d (.int .i64 n)]]).trans rfl) rfl rfl
theorem q303(n:Int):G 303 [.int .i64 n]=some (0,[.str (fmtI n)]):=by
 refine gOf s303 rfl ?_;simp only[go_sem,t303,q9001]
end
section
set_option maxRecDepth 100000
set_option maxHeartbeats 4000000
theorem allI_and{α:Type}(p q:Nat→α→Bool):∀(i:Nat) (l:List α),allI (fun i e=>p i e && q i e) i l=(allI p i l && allI q i l)
 |_,[]=>rfl
 |i,e::l=>by
  simp only[allI,allI_and p q (i+1) l];cases p i e<;>cases q i e<;>cases allI p (i+1) l<;>simp
theorem allI_map{α β:Type}(p:Nat→β→Bool)(f:α→β):∀(i:Nat) (l:List α),allI p i (l.map f)=allI (fun i e=>p i (f e)) i l
 |_,[]=>rfl
 |i,e::l=>by simp only[List.map_cons,allI,allI_map p f (i+1) l]
def atB{α:Type}(q:α→Bool)(t:List α)(j:Nat):Bool:=match nth t j with
 |some x=>q x
 |none=>true
theorem allN_nth{α:Type}(q:α→Bool)(t:List α):∀(m i:Nat),i+m≤t.length→allN (atB q t) i m=((t.drop i).take m).all q
 |0,i,h=>by simp[allN]
 |m+1,i,h=>by
  have a1:=nth_lt (l:=t) (i:=i) (by omega);rw[drop_nth t i _ a1,List.take_succ_cons,List.all_cons,← allN_nth q t m (i+1) (by omega)];simp only[allN,atB,a1]
def isTest(t:XTest):Bool:=isName t.name && isText t.value
def okTests(l:List XTest):Bool:=difS (l.map XTest.name) && l.all isTest
theorem hasS_map(l:List XTest)(v:ByteArray):hasS (l.map XTest.name) v=!(l.all fun x=>!decide (x.name=v)):=by
 induction l with
 |nil=>rfl
 |cons x l ih=>
  simp only[List.map_cons,hasS,List.any_cons,List.all_cons]at ih ⊢;rw[ih,decide_eq_decide.2 (eq_comm (a:=v) (b:=x.name))];cases decide (x.name=v)<;>simp
theorem okTests_eq(l:List XTest):okTests l=allI (fun k e=>((l.take k).all fun x=>!decide (x.name=e.name)) && isTest e) 0 l:=by
 have h:=allI_and (fun k (e:XTest)=>(l.take k).all fun x=>!decide (x.name=e.name)) (fun _ e=>isTest e) 0 l;rw[okTests,h,allI_all,difS,allI_map]
 congr 2
 funext i e
 rw[← List.map_take,hasS_map,Bool.not_not]
def isStep(s:XStep):Bool:=okTests s.tests && (isName s.name && decide (s.tests.length≤3))
def pathT(p:XPath):Bool:=inB 0 8 p.ups && (decide (p.steps.length≤10) && ((!p.root ||decide (p.ups=0)) && (p.root ||(decide (0 < p.ups) ||!p.steps.isEmpty))))
def isPath(p:XPath):Bool:=p.steps.all isStep && pathT p
theorem le_n(n k:Nat):decide ((n:Int)≤(k:Int))=decide (n≤k):=by rw[Bool.eq_iff_iff];simp
theorem leL3(n:Nat):decide ((n:Int)≤3)=decide (n≤3):=le_n n 3
theorem gtL3(n:Nat):decide (3 < (n:Int))=!decide (n≤3):=by rw[Bool.eq_iff_iff];simp;omega
theorem leL10(n:Nat):decide ((n:Int)≤10)=decide (n≤10):=le_n n 10
theorem gtL{α:Type}(l:List α):decide (0 < (l.length:Int))=!l.isEmpty:=by cases l<;>simp
theorem szl_parts{α:Type}{f:α→List D}{l:List α}{x:α}{n:Nat}(h:szl f l≤n)(hx:x∈l):szC (f x)≤n∧l.length≤n:=by
 have:=szl_mem f hx;simp only[szl]at *;omega
section
variable {s:XStep} {rt:Bool} {up:Int} {ss:List XStep}
theorem l205_0_ok{t:List XTest}{e:XTest}{k i:Nat}(hn:nth t k=some e)(ht:szl eTest t≤mg) :
  gloop (lB G l205_0) (0,[.int .i64 (i:Int),dTests t,.int .i64 (k:Int),.int .i64 0,.bool rt,.int .i64 up,dSteps ss]) =
   some (if (t.take k).all (fun x=>!decide (x.name=e.name))=true then (1,[.int .i64 (i:Int),dTests t,.int .i64 (k:Int),.int .i64 (k:Int),.bool false,.bool rt,.int .i64 up,dSteps ss]) else (0,[.bool false])):=by
 have hk:=nth_len hn;have hlen:t.length≤mg:=by simp only[szl]at ht;omega
 have hl:=gl_allN (b:=lB G l205_0) (fun j=>(0,[.int .i64 (i:Int),dTests t,.int .i64 (k:Int),.int .i64 (j:Int),.bool rt,.int .i64 up,dSteps ss])) (atB (fun x=>!decide (x.name=e.name)) t) k
  (1,[.int .i64 (i:Int),dTests t,.int .i64 (k:Int),.int .i64 (k:Int),.bool false,.bool rt,.int .i64 up,dSteps ss]) (0,[.bool false]) (by
  intro j hj;have a1:=nth_lt (l:=t) (i:=j) (by omega);have hw:=wj (i:=j) (n:=k) hj (by omega);generalize t[j]'(by omega)=x at a1;simp only[go_sem,lB_,l205_0,hj,nth_map,hn,a1,eTest,atB];cases hc:decide (x.name=e.name)<;>simp only[go_sem,hw]) (by simp only[go_sem,lB_,l205_0,Nat.lt_irrefl]) k 0 (by omega)
 rw[n0]at hl;rw[hl,allN_nth _ t k 0 (by omega),List.drop_zero]
theorem l205_1_ok{t:List XTest}{i:Nat}(ht:szl eTest t≤mg) :
  gloop (lB G l205_1) (0,[.int .i64 (i:Int),dTests t,.int .i64 0,.bool rt,.int .i64 up,dSteps ss]) =
   some (if okTests t=true then (1,[.int .i64 (i:Int),dTests t,.int .i64 t.length,.bool false,.bool rt,.int .i64 up,dSteps ss]) else (0,[.bool false])):=by
 have hlen:t.length≤mg:=by simp only[szl]at ht;omega
 have hl:=gl_allI (b:=lB G l205_1) t (fun k=>(0,[.int .i64 (i:Int),dTests t,.int .i64 (k:Int),.bool rt,.int .i64 up,dSteps ss])) (fun k e=>((t.take k).all fun x=>!decide (x.name=e.name)) && isTest e)
  (1,[.int .i64 (i:Int),dTests t,.int .i64 t.length,.bool false,.bool rt,.int .i64 up,dSteps ss]) (0,[.bool false]) (by
  intro k e hn;have hk:=nth_len hn;have hw:=wj hk hlen;have hsz:=szl_mem eTest (nth_in hn);rw[szC_test]at hsz;have h1:=q202 (s:=e.name) (by omega);have h2:=q204 (s:=e.value) (by omega);simp only[go_sem,lB_,l205_1,hk,List.length_map,l205_0_ok hn ht];cases hc:(t.take k).all (fun x=>!decide (x.name=e.name)) with
  |false=>simp only[go_sem]
  |true=>
   simp only[go_sem,nth_map,hn,eTest,h1];cases h3:isName e.name with
   |false=>simp only[go_sem,h3,isTest]
   |true=>
    simp only[go_sem,h3,isTest,nth_map,hn,eTest,h2];cases h4:isText e.value<;>simp only[go_sem,hw]) (by simp only[go_sem,lB_,l205_1,Nat.lt_irrefl,List.length_map]) t.length 0 (by omega)
 rw[n0,List.drop_zero]at hl;rw[hl,okTests_eq]
end
theorem pathT_eq(p:XPath):pathT p=(inB 0 8 p.ups && decide (p.steps.length≤10) && (!p.root ||decide (p.ups=0)) && (p.root ||(decide (0 < p.ups) ||!p.steps.isEmpty))):=by
 simp[pathT,Bool.and_assoc]
theorem q205{p:XPath}(hs:szC (ePath p)≤mg):G 205 (ePath p)=some (0,[.bool (isPath p)]):=by
 rw[szC_path]at hs;have hlen:p.steps.length≤mg:=by simp only[szl]at hs;omega
 refine gOf s205 rfl ?_;simp only[go_sem,t205,ePath];have hl:=gl_all (b:=lB G l205_2) p.steps (fun i=>(0,[.int .i64 (i:Int),.bool p.root,.int .i64 p.ups,dSteps p.steps])) isStep (1,[.int .i64 p.steps.length,.bool false,.bool p.root,.int .i64 p.ups,dSteps p.steps]) (0,[.bool false]) (by
  intro i e hn;have hi:=nth_len hn;have hw:=wj hi hlen;have hsz:=szl_mem eStep (nth_in hn);rw[szC_step]at hsz;have h1:=q202 (s:=e.name) (by omega);simp only[go_sem,lB_,l205_2,hi,List.length_map,nth_map,hn,eStep,l205_1_ok (t:=e.tests) (by omega)];cases h2:okTests e.tests with
  |false=>simp only[go_sem,h2,isStep]
  |true=>
   simp only[go_sem,h2,isStep,nth_map,hn,eStep,h1];cases h3:isName e.name with
   |false=>simp only[go_sem]
   |true=>
    simp only[go_sem,List.length_map,gtL3];cases h4:decide (e.tests.length≤3)<;>simp only[go_sem,hw]) (by simp only[go_sem,lB_,l205_2,Nat.lt_irrefl,List.length_map])
 rw[n0]at hl;rw[hl,isPath];cases p.steps.all isStep with
 |false=>simp only[go_sem]
 |true=>
  rw[pathT_eq];simp only[go_sem,q74]
  repeat' (first|with_reducible rfl|((first|rw[gd_n]|rw[og_n]|rw[gd_m]|rw[og_m]);split<;>simp only[go_sem,List.length_map,leL10,gtL, *]))
  all_goals simp_all
theorem q265{s:XStep}(hs:szC (eStep s)≤mg):G 265 (eStep s)=some (0,[.bool (isStep s)]):=by
 rw[szC_step]at hs;have hlen:s.tests.length≤mg:=by simp only[szl]at hs;omega
 refine gOf s265 rfl ?_;simp only[go_sem,t265,eStep];have hl:=gl_all (b:=lB G l265_0) s.tests (fun i=>(0,[dTests s.tests,.int .i64 s.tests.length,.int .i64 (i:Int),.str s.name,dTests s.tests,dStrs ((s.tests.take i).map XTest.name)])) isTest
  (1,[dTests s.tests,.int .i64 s.tests.length,.int .i64 s.tests.length,.bool false,.str s.name,dTests s.tests,dStrs (s.tests.map XTest.name)]) (0,[.bool false]) (by
  intro i e hn;have hi:=nth_len hn;have hw:=wj hi hlen;have hsz:=szl_mem eTest (nth_in hn);rw[szC_test]at hsz;have h1:=q261 (s:=e.name) (by omega);have h2:=q264 (s:=e.value) (by omega);have hap:evPO (.app 1 16) [dStrs ((s.tests.take i).map XTest.name),.list 1 true [[.str e.name]]]=some (dStrs ((s.tests.take (i+1)).map XTest.name)):=by
   rw[map_succ hn,po_app]
   ·simp[eStr]
   ·simp only[List.length_map,List.length_take,List.length_cons,List.length_nil];simp only[mg]at hlen;exact⟨Nat.le_trans (Nat.mul_le_mul (show min i s.tests.length+(0+1)≤2000000 by omega) (Nat.le_refl 16)) (by decide),Nat.le_trans (show min i s.tests.length+(0+1)≤2000000 by omega) (by decide)⟩
  have hmk:evPO (.mkl 1 true) [.str e.name]=some (.list 1 true [[.str e.name]]):=by simp[evPO,chunk,plains,D.plain]
  simp only[go_sem,lB_,l265_0,hi,nth_map,hn,eTest,List.length_cons,List.length_nil,Nat.le_refl,h1];cases h3:isName e.name with
  |false=>simp only[go_sem,h3,isTest]
  |true=>
   simp only[go_sem,h3,isTest,h2];cases h4:isText e.value<;>simp only[go_sem,hw,hap,hmk]) (by simp only[go_sem,lB_,l265_0,Nat.lt_irrefl,List.take_length])
 rw[n0]at hl;rw[List.length_map];have hl':gloop (lB G l265_0) (0,[dTests s.tests,.int .i64 s.tests.length,.int .i64 0,.str s.name,dTests s.tests,.list 1 true []])=_:=hl;rw[hl',isStep,okTests];cases s.tests.all isTest with
 |false=>simp only[go_sem]
 |true=>
  have h1:=q261 (s:=s.name) (by omega);have h2:=q257 (l:=s.tests.map XTest.name) (by rw[List.length_map];exact hlen);simp only[go_sem,h1];cases h3:isName s.name with
  |false=>simp only[go_sem]
  |true=>
   simp only[go_sem,leL3,List.length_map];cases h4:decide (s.tests.length≤3) with
   |false=>simp only[go_sem]
   |true=>
    have hp:evPO .pl [.bool (difS (s.tests.map XTest.name))]=some (.bool false):=rfl;simp only[go_sem,h2,hp]
theorem q266{p:XPath}(hs:szC (ePath p)≤mg):G 266 (ePath p)=some (0,[.bool (isPath p)]):=by
 rw[szC_path]at hs;have hlen:p.steps.length≤mg:=by simp only[szl]at hs;omega
 refine gOf s266 rfl ?_;simp only[go_sem,t266,ePath];have hl:=gl_all (b:=lB G l266_0) p.steps (fun i=>(0,[dSteps p.steps,.int .i64 p.steps.length,.int .i64 (i:Int),.bool p.root,.int .i64 p.ups,dSteps p.steps])) isStep (1,[dSteps p.steps,.int .i64 p.steps.length,.int .i64 p.steps.length,.bool false,.bool p.root,.int .i64 p.ups,dSteps p.steps]) (0,[.bool false]) (by
  intro i e hn;have hi:=nth_len hn;have hw:=wj hi hlen;have hsz:=szl_mem eStep (nth_in hn);have h1:=q265 (s:=e) (by omega);rw[eStep]at h1;simp only[go_sem,lB_,l266_0,hi,nth_map,hn,eStep,List.length_cons,List.length_nil,Nat.le_refl,h1];cases h2:isStep e<;>simp only[go_sem,hw]) (by simp only[go_sem,lB_,l266_0,Nat.lt_irrefl])
 rw[n0]at hl;rw[List.length_map,hl,isPath];cases p.steps.all isStep with
 |false=>simp only[go_sem]
 |true=>
  rw[pathT_eq];unfold inB;simp only[go_sem]
  repeat' (first|with_reducible rfl|((first|rw[gd_n]|rw[og_n]|rw[gd_m]|rw[og_m]);split<;>simp only[go_sem,List.length_map,leL10,gtL, *]))
  all_goals simp_all
end
section
set_option maxRecDepth 100000
set_option maxHeartbeats 4000000
attribute [go_sem] List.length_cons List.length_nil Nat.le_refl List.length_map
theorem eExpr_len(e:XExpr):(eExpr e).length=7:=by rw[eExpr_eq];rfl
theorem po_has7(e:XExpr)(k:Nat)(fl:Bool):evPO (.has 7) [.list k fl [eExpr e]]=some (.bool false):=by
 rw[po_has,eExpr_len,if_pos (Nat.le_refl 7)]
theorem q39(a b:Int):G 39 [.int .i64 a,.int .i64 b]=some (0,[.int .i64 (if a < b then b else a)]):=by
 refine gOf s39 rfl ?_;simp only[go_sem,t39];by_cases h:a < b<;>simp only[go_sem,h]
theorem XExpr.kids_lt(e:XExpr)(es:List XExpr):SizeOf.sizeOf e.kids < SizeOf.sizeOf (e::es):=by
 cases e;simp only[List.cons.sizeOf_spec,XExpr.mk.sizeOf_spec];omega
def depL:List XExpr→Nat
 |[]=>0
 |e::es=>max (depL e.kids+1) (depL es)
termination_by es=>SizeOf.sizeOf es
decreasing_by
 ·exact XExpr.kids_lt e es
 ·simp only[List.cons.sizeOf_spec];omega
abbrev dep(e:XExpr):Nat:=depL e.kids+1
theorem d0:((depL []:Nat):Int)=0:=by simp[depL]
theorem depL_app(e:XExpr):∀(l:List XExpr),depL (l++[e])=max (depL l) (dep e)
 |[]=>by simp[depL]
 |x::l=>by rw[List.cons_append,depL,depL_app e l,depL,Nat.max_assoc]
theorem depL_le:∀(n:Nat) (l:List XExpr),SizeOf.sizeOf l < n→depL l≤szl eExpr l
 |0,l,h=>by omega
 |n+1,[],h=>by simp[depL]
 |n+1,e::l,h=>by
  have h1:=depL_le n e.kids (by have:=XExpr.kids_lt e l;omega);have h2:=depL_le n l (by simp only[List.cons.sizeOf_spec]at h;omega);rw[depL,szl_cons,szC_expr];omega
theorem dep_le{e:XExpr}:dep e≤szC (eExpr e)+1:=by
 have:=depL_le _ e.kids (Nat.lt_succ_self _);rw[szC_expr];simp only[dep];omega
theorem mx(a b:Nat):(if (a:Int) < (b:Int) then (b:Int) else (a:Int))=((max a b:Nat):Int):=by
 by_cases h:a < b
 ·rw[if_pos (by omega),Nat.max_eq_right (by omega)]
 ·rw[if_neg (by omega),Nat.max_eq_left (by omega)]
theorem XExpr.kid_lt{e x:XExpr}(h:x∈e.kids):SizeOf.sizeOf x < SizeOf.sizeOf e:=XExpr.kid h
theorem kid_sz{e x:XExpr}(h:x∈e.kids):szC (eExpr x)≤szC (eExpr e):=by
 have:=szl_mem eExpr h;rw[szC_expr e];omega
theorem kids_len{e:XExpr}:e.kids.length≤szC (eExpr e):=by
 rw[szC_expr e];simp only[szl];omega
theorem q203_n(n:Nat):∀e:XExpr,SizeOf.sizeOf e < n→szC (eExpr e)≤mg→G 203 (eExpr e)=some (0,[.int .i64 (dep e)]):=by
 induction n with
 |zero=>intro e h;omega
 |succ n ih=>
  intro e hz hs;refine gOf s203 (by rw[eExpr_eq];rfl) ?_;simp only[go_sem,t203,eExpr_eq];have hlen:e.kids.length≤mg:=Nat.le_trans kids_len hs;have hl:=gl_gather (b:=lB G l203_0) e.kids (fun i (m:Nat)=>(0,.int .i64 (m:Int)::.int .i64 (i:Int)::eExpr e)) (fun i=>depL (e.kids.take i)) (0,.int .i64 (depL e.kids)::.int .i64 e.kids.length::.bool false::eExpr e) (by
   intro i x hn;have hi:=nth_len hn;have hw:=wj hi hlen;have hx:=ih x (by have:=XExpr.kid_lt (nth_in hn);omega) (Nat.le_trans (kid_sz (nth_in hn)) hs);rw[eExpr_eq]at hx;simp only[go_sem,lB_,l203_0,eExpr_eq e,hi,nth_map,hn,po_has7];simp only[go_sem,eExpr_eq,hx,q39,mx,hw,take_succ_nth _ _ _ hn,depL_app,dep]) (by simp only[go_sem,lB_,l203_0,eExpr_eq,Nat.lt_irrefl,List.take_length]) e.kids.length 0 (by omega)
  rw[List.take_zero,d0,n0,eExpr_eq]at hl;have hd:=dep_le (e:=e);have hw:IntKind.i64.wrap ((depL e.kids:Int)+1)=((depL e.kids+1:Nat):Int):=by rw[wrap_i64 (by simp only[mg,dep]at *;omega)];omega
  simp only[go_sem,hl,hw]
theorem q203{e:XExpr}(hs:szC (eExpr e)≤mg):G 203 (eExpr e)=some (0,[.int .i64 (dep e)]):=q203_n _ e (Nat.lt_succ_self _) hs
theorem q262_n(n:Nat):∀e:XExpr,SizeOf.sizeOf e < n→szC (eExpr e)≤mg→G 262 (eExpr e)=some (0,[.int .i64 (dep e)]):=by
 induction n with
 |zero=>intro e h;omega
 |succ n ih=>
  intro e hz hs;refine gOf s262 (by rw[eExpr_eq];rfl) ?_;simp only[go_sem,t262,eExpr_eq];have hlen:e.kids.length≤mg:=Nat.le_trans kids_len hs;have hl:=gl_gather (b:=lB G l262_0) e.kids (fun i (m:Nat)=>(0,[.int .i64 (m:Int),dExprs e.kids,.int .i64 e.kids.length,.int .i64 (i:Int)])) (fun i=>depL (e.kids.take i)) (0,[.int .i64 (depL e.kids),dExprs e.kids,.int .i64 e.kids.length,.int .i64 e.kids.length,.bool false]) (by
   intro i x hn;have hi:=nth_len hn;have hw:=wj hi hlen;have hx:=ih x (by have:=XExpr.kid_lt (nth_in hn);omega) (Nat.le_trans (kid_sz (nth_in hn)) hs);rw[eExpr_eq]at hx;simp only[go_sem,lB_,l262_0,hi,nth_map,hn,po_has7];simp only[go_sem,eExpr_eq,hx,mx,hw,take_succ_nth _ _ _ hn,depL_app,dep]) (by simp only[go_sem,lB_,l262_0,Nat.lt_irrefl,List.take_length]) e.kids.length 0 (by omega)
  rw[List.take_zero,d0,n0]at hl;have hd:=dep_le (e:=e);have hw:IntKind.i64.wrap ((depL e.kids:Int)+1)=((depL e.kids+1:Nat):Int):=by rw[wrap_i64 (by simp only[mg,dep]at *;omega)];omega
  simp only[go_sem,hl,hw]
theorem q262{e:XExpr}(hs:szC (eExpr e)≤mg):G 262 (eExpr e)=some (0,[.int .i64 (dep e)]):=q262_n _ e (Nat.lt_succ_self _) hs
def zp(p:XPath):Bool:=!p.root && (decide (p.ups=0) && p.steps.isEmpty)
theorem len0'{α:Type}(l:List α):decide ((l.length:Int)=0)=l.isEmpty:=by cases l<;>simp;omega
theorem q206(p:XPath):G 206 (ePath p)=some (0,[.bool (zp p)]):=by
 refine gOf s206 rfl ?_;simp only[go_sem,t206,ePath]
 repeat' (first|with_reducible rfl|((first|rw[gd_n]|rw[og_n]|rw[gd_m]|rw[og_m]);split<;>simp only[go_sem,len0', *]))
 all_goals simp_all[zp]
theorem q263(p:XPath):G 263 (ePath p)=some (0,[.bool (zp p)]):=by
 refine gOf s263 rfl ?_;simp only[go_sem,t263,ePath]
 repeat' (first|with_reducible rfl|((first|rw[gd_n]|rw[og_n]|rw[gd_m]|rw[og_m]);split<;>simp only[go_sem,len0', *]))
 all_goals simp_all[zp]
def orA:ByteArray:=⟨#[111,114]⟩
def andA:ByteArray:=⟨#[97,110,100]⟩
theorem tx_or:(⟨[111,114].toArray⟩:ByteArray)=orA:=(rfl)
theorem tx_and:(⟨[97,110,100].toArray⟩:ByteArray)=andA:=(rfl)
def badN(p:XPath):Bool:=match p.steps with
 |s::_=>decide (s.name=orA) ||decide (s.name=andA)
 |[]=>false
def wrt(p:XPath):Bool:=(p.root ||decide (0 < p.ups) ||!badN p) && !(p.root && p.steps.isEmpty)
theorem path_inv{p:XPath}(h:isPath p=true):0≤p.ups∧(p.root=true→p.ups=0)∧(p.root=true∨0 < p.ups∨p.steps≠[]):=by
 simp only[isPath,pathT,inB,Bool.and_eq_true,Bool.or_eq_true,decide_eq_true_eq,Bool.not_eq_true',List.isEmpty_eq_false_iff]at h;obtain⟨_,⟨h1,_⟩,_,h2,h3⟩:=h;refine⟨h1,fun hr=>?_,?_⟩
 ·rcases h2 with h2|h2
  ·rw[hr]at h2;cases h2
  ·exact h2
 ·rcases h3 with h3|h3|h3
  ·exact .inl h3
  ·exact .inr (.inl h3)
  ·exact .inr (.inr h3)
theorem q207{p:XPath}(hp:isPath p=true):G 207 (ePath p)=some (0,[.bool (wrt p)]):=by
 obtain⟨h1,h2,h3⟩:=path_inv hp;refine gOf s207 rfl ?_;simp only[go_sem,t207,ePath];cases hr:p.root with
 |true=>
  have hu:p.ups=0:=h2 hr;simp only[go_sem,hr,hu,gtL,wrt]
 |false=>
  by_cases hu:0 < p.ups
  ·simp only[go_sem,hr,hu,wrt]
  ·have hs:p.steps≠[]:=by
    rcases h3 with h|h|h
    ·rw[hr]at h;cases h
    ·exact absurd h hu
    ·exact h
   obtain⟨s,l,hl⟩:=List.exists_cons_of_ne_nil hs;simp only[go_sem,hr,hu,wrt,hl,badN,List.map_cons,eStep,tx_or];have e3:¬andA=orA:=by decide
   by_cases e1:s.name=orA
   ·simp only[go_sem,e1]
   ·by_cases e2:s.name=andA<;>simp only[go_sem,e1,e2,e3,tx_and]
def kidsN(op:Int):Nat:=if op≤4 then 0 else if op=5 then 1 else 2
def exOwn(e:XExpr):Bool:=if e.op=1 then inB 0 1000000000 e.num else if e.op=2 then isText e.text else if e.op=3 then isPath e.path && wrt e.path else if e.op=4 then isPath e.path else true
def exHead(e:XExpr):Bool:=inB 1 15 e.op && (decide (e.kids.length=kidsN e.op) && ((decide (e.op=1) ||decide (e.num=0)) && ((decide (e.op=2) ||decide (e.text.size=0)) && ((decide (e.op=3) ||(decide (e.op=4) ||zp e.path)) && exOwn e))))
def xOkL:List XExpr→Bool
 |[]=>true
 |e::es=>exHead e && xOkL e.kids && xOkL es
termination_by es=>SizeOf.sizeOf es
decreasing_by
 ·exact XExpr.kids_lt e es
 ·simp only[List.cons.sizeOf_spec];omega
def xOk(e:XExpr):Bool:=exHead e && xOkL e.kids
theorem xOkL_all:∀(l:List XExpr),xOkL l=l.all xOk
 |[]=>by simp[xOkL]
 |e::l=>by rw[xOkL,List.all_cons,xOkL_all l];rfl
theorem l208_ok{n:Nat}(ih:∀e:XExpr,SizeOf.sizeOf e < n→szC (eExpr e)≤mg→G 208 (eExpr e)=some (0,[.bool (xOk e)])){e:XExpr}(hz:SizeOf.sizeOf e < n+1)(hs:szC (eExpr e)≤mg) :
  gloop (lB G l208_0) (0,.int .i64 e.kids.length::.int .i64 0::eExpr e)=some (if xOkL e.kids=true then (1,.int .i64 e.kids.length::.int .i64 e.kids.length::.bool false::eExpr e) else (0,[.bool false])):=by
 have hlen:e.kids.length≤mg:=Nat.le_trans kids_len hs;rw[xOkL_all];exact gl_all (b:=lB G l208_0) e.kids (fun i=>(0,.int .i64 e.kids.length::.int .i64 (i:Int)::eExpr e)) xOk _ _ (by
  intro i x hn;have hi:=nth_len hn;have hw:=wj hi hlen;have hx:=ih x (by have:=XExpr.kid_lt (nth_in hn);omega) (Nat.le_trans (kid_sz (nth_in hn)) hs);rw[eExpr_eq]at hx;simp only[go_sem,lB_,l208_0,eExpr_eq e,hi,nth_map,hn,po_has7];simp only[go_sem,eExpr_eq x,hx];cases xOk x<;>simp only[go_sem,hw]) (by simp only[go_sem,lB_,l208_0,eExpr_eq,Nat.lt_irrefl])
theorem kids0{e:XExpr}(h:e.kids.length=0):xOkL e.kids=true:=by
 have:e.kids=[]:=List.length_eq_zero_iff.1 h;rw[this];simp[xOkL]
theorem q208_n(n:Nat):∀e:XExpr,SizeOf.sizeOf e < n→szC (eExpr e)≤mg→G 208 (eExpr e)=some (0,[.bool (xOk e)]):=by
 induction n with
 |zero=>intro e h;omega
 |succ n ih=>
  intro e hz hs;have hl:=l208_ok ih hz hs;rw[eExpr_eq]at hl;have ht:=szC_expr e;have hq:=q204 (s:=e.text) (by omega);have h5:=q205 (p:=e.path) (by omega);have h6:=q206 e.path;rw[ePath]at h5 h6;have hw7:isPath e.path=true→G 207 [.bool e.path.root,.int .i64 e.path.ups,dSteps e.path.steps]=some (0,[.bool (wrt e.path)]):=fun h=>q207 h;refine gOf s208 (by rw[eExpr_eq];rfl) ?_;simp only[go_sem,t208,eExpr_eq];have small:∀{k:Nat} (hk:e.kids.length=0),gloop (lB G l208_0) (0,[.int .i64 0,.int .i64 0,.int .i64 e.op,.int .i64 e.num,.str e.text,.bool e.path.root,.int .i64 e.path.ups,dSteps e.path.steps,dExprs e.kids])=some (1,[.int .i64 0,.int .i64 0,.bool false,.int .i64 e.op,.int .i64 e.num,.str e.text,.bool e.path.root,.int .i64 e.path.ups,dSteps e.path.steps,dExprs e.kids]):=by
   intro _ hk;rw[kids0 hk,hk]at hl;exact hl
  by_cases o1:e.op=1
  ·have hh:exHead e=(decide (e.kids.length=0) && ((decide (e.text.size=0)) && (zp e.path && inB 0 1000000000 e.num))):=by simp[exHead,exOwn,kidsN,inB,o1]
   rw[o1]at small;by_cases hk:e.kids.length=0
   ·have hk':(e.kids.length:Int)=0:=by omega
    have hs':=small (k:=0) hk;have h0:=kids0 hk;simp only[go_sem,q74,o1]
    repeat' (first|with_reducible rfl|((first|rw[gd_n]|rw[og_n]|rw[gd_m]|rw[og_m]);split<;>simp only[go_sem,nstr0, *]))
    all_goals simp_all[xOk]
   ·have hk':¬(e.kids.length:Int)=0:=by omega
    simp only[go_sem,q74,o1]
    repeat' (first|with_reducible rfl|((first|rw[gd_n]|rw[og_n]|rw[gd_m]|rw[og_m]);split<;>simp only[go_sem,nstr0, *]))
    all_goals simp_all[xOk]
  by_cases o2:e.op=2
  ·have hh:exHead e=(decide (e.kids.length=0) && ((decide (e.num=0)) && (zp e.path && isText e.text))):=by simp[exHead,exOwn,kidsN,inB,o2]
   rw[o2]at small;by_cases hk:e.kids.length=0
   ·have hk':(e.kids.length:Int)=0:=by omega
    have hs':=small (k:=0) hk;have h0:=kids0 hk;simp only[go_sem,hq,o2]
    repeat' (first|with_reducible rfl|((first|rw[gd_n]|rw[og_n]|rw[gd_m]|rw[og_m]);split<;>simp only[go_sem, *]))
    all_goals simp_all[xOk]
   ·have hk':¬(e.kids.length:Int)=0:=by omega
    simp only[go_sem,hq,o2]
    repeat' (first|with_reducible rfl|((first|rw[gd_n]|rw[og_n]|rw[gd_m]|rw[og_m]);split<;>simp only[go_sem, *]))
    all_goals simp_all[xOk]
  by_cases o3:e.op=3
  ·have hh:exHead e=(decide (e.kids.length=0) && ((decide (e.num=0)) && (decide (e.text.size=0) && (isPath e.path && wrt e.path)))):=by simp[exHead,exOwn,kidsN,inB,o3]
   rw[o3]at small;cases hp:isPath e.path with
   |false=>
    simp only[go_sem,h5,o3,hp]
    repeat' (first|with_reducible rfl|((first|rw[gd_n]|rw[og_n]|rw[gd_m]|rw[og_m]);split<;>simp only[go_sem,q74,hq,h5,h6,ba0,nstr0,o3,hp, *]))
    all_goals simp_all[xOk]
   |true=>
    have h7:=hw7 hp;by_cases hk:e.kids.length=0
    ·have hk':(e.kids.length:Int)=0:=by omega
     have hs':=small (k:=0) hk;have h0:=kids0 hk;simp only[go_sem,h5,o3,hp]
     repeat' (first|with_reducible rfl|((first|rw[gd_n]|rw[og_n]|rw[gd_m]|rw[og_m]);split<;>simp only[go_sem,nstr0, *]))
     all_goals simp_all[xOk]
    ·have hk':¬(e.kids.length:Int)=0:=by omega
     simp only[go_sem,h5,o3,hp]
     repeat' (first|with_reducible rfl|((first|rw[gd_n]|rw[og_n]|rw[gd_m]|rw[og_m]);split<;>simp only[go_sem,nstr0, *]))
     all_goals simp_all[xOk]
  by_cases o4:e.op=4
  ·have hh:exHead e=(decide (e.kids.length=0) && ((decide (e.num=0)) && (decide (e.text.size=0) && isPath e.path))):=by simp[exHead,exOwn,kidsN,inB,o4]
   rw[o4]at small;by_cases hk:e.kids.length=0
   ·have hk':(e.kids.length:Int)=0:=by omega
    have hs':=small (k:=0) hk;have h0:=kids0 hk;simp only[go_sem,h5,o4]
    repeat' (first|with_reducible rfl|((first|rw[gd_n]|rw[og_n]|rw[gd_m]|rw[og_m]);split<;>simp only[go_sem,nstr0, *]))
    all_goals simp_all[xOk]
   ·have hk':¬(e.kids.length:Int)=0:=by omega
    simp only[go_sem,h5,o4]
    repeat' (first|with_reducible rfl|((first|rw[gd_n]|rw[og_n]|rw[gd_m]|rw[og_m]);split<;>simp only[go_sem,nstr0, *]))
    all_goals simp_all[xOk]
  cases hi:inB 5 15 e.op with
  |false=>
   have hh:exHead e=false:=by
    have:inB 1 15 e.op=false:=by
     rw[Bool.eq_false_iff]at hi ⊢;intro h
     apply hi
     have:=(inB_iff _ _ _).1 h;exact (inB_iff _ _ _).2 (by omega)
    simp[exHead,this]
   have hx:xOk e=false:=by simp[xOk,hh]
   simp only[go_sem,q74,o1,o2,o3,o4,hi,hx]
  |true=>
   have hr:=(inB_iff _ _ _).1 hi;have hin:inB 1 15 e.op=true:=(inB_iff _ _ _).2 (by omega);by_cases o5:e.op=5
   ·have hh:exHead e=(decide (e.kids.length=1) && ((decide (e.num=0)) && (decide (e.text.size=0) && zp e.path))):=by simp[exHead,exOwn,kidsN,inB,o5]
    by_cases hk:e.kids.length=1
    ·have hk':(e.kids.length:Int)=1:=by omega
     rw[hk',o5]at hl;cases h9:xOkL e.kids with
     |false=>
      rw[h9]at hl;simp only[go_sem]at hl;simp only[go_sem,q74,o5]
      repeat' (first|with_reducible rfl|((first|rw[gd_n]|rw[og_n]|rw[gd_m]|rw[og_m]);split<;>simp only[go_sem,nstr0, *]))
      all_goals simp_all[xOk]
     |true=>
      rw[h9]at hl;simp only[go_sem]at hl;simp only[go_sem,q74,o5]
      repeat' (first|with_reducible rfl|((first|rw[gd_n]|rw[og_n]|rw[gd_m]|rw[og_m]);split<;>simp only[go_sem,nstr0, *]))
      all_goals simp_all[xOk]
    ·have hk':¬(e.kids.length:Int)=1:=by omega
     simp only[go_sem,q74,o5]
     repeat' (first|with_reducible rfl|((first|rw[gd_n]|rw[og_n]|rw[gd_m]|rw[og_m]);split<;>simp only[go_sem,nstr0, *]))
     all_goals simp_all[xOk]
   ·have hN:kidsN e.op=2:=by unfold kidsN;rw[if_neg (by omega),if_neg o5]
    have hh:exHead e=(decide (e.kids.length=2) && ((decide (e.num=0)) && (decide (e.text.size=0) && zp e.path))):=by simp[exHead,exOwn,hN,hin,o1,o2,o3,o4]
    by_cases hk:e.kids.length=2
    ·have hk':(e.kids.length:Int)=2:=by omega
     rw[hk']at hl;cases h9:xOkL e.kids with
     |false=>
      rw[h9]at hl;simp only[go_sem]at hl;simp only[go_sem,q74,o1,o2,o3,o4,o5,hi]
      repeat' (first|with_reducible rfl|((first|rw[gd_n]|rw[og_n]|rw[gd_m]|rw[og_m]);split<;>simp only[go_sem,nstr0, *]))
      all_goals simp_all[xOk]
     |true=>
      rw[h9]at hl;simp only[go_sem]at hl;simp only[go_sem,q74,o1,o2,o3,o4,o5,hi]
      repeat' (first|with_reducible rfl|((first|rw[gd_n]|rw[og_n]|rw[gd_m]|rw[og_m]);split<;>simp only[go_sem,nstr0, *]))
      all_goals simp_all[xOk]
    ·have hk':¬(e.kids.length:Int)=2:=by omega
     simp only[go_sem,q74,o1,o2,o3,o4,o5,hi]
     repeat' (first|with_reducible rfl|((first|rw[gd_n]|rw[og_n]|rw[gd_m]|rw[og_m]);split<;>simp only[go_sem,nstr0, *]))
     all_goals simp_all[xOk]
theorem q208{e:XExpr}(hs:szC (eExpr e)≤mg):G 208 (eExpr e)=some (0,[.bool (xOk e)]):=q208_n _ e (Nat.lt_succ_self _) hs
end
section
set_option maxRecDepth 100000
set_option maxHeartbeats 4000000
theorem l267_ok{n:Nat}(ih:∀e:XExpr,SizeOf.sizeOf e < n→szC (eExpr e)≤mg→G 267 (eExpr e)=some (0,[.bool (xOk e)])){e:XExpr}(hz:SizeOf.sizeOf e < n+1)(hs:szC (eExpr e)≤mg) :
  gloop (lB G l267_0) (0,[dExprs e.kids,.int .i64 e.kids.length,.int .i64 0])=some (if xOkL e.kids=true then (1,[dExprs e.kids,.int .i64 e.kids.length,.int .i64 e.kids.length,.bool false]) else (0,[.bool false])):=by
 have hlen:e.kids.length≤mg:=Nat.le_trans kids_len hs;rw[xOkL_all];exact gl_all (b:=lB G l267_0) e.kids (fun i=>(0,[dExprs e.kids,.int .i64 e.kids.length,.int .i64 (i:Int)])) xOk _ _ (by
  intro i x hn;have hi:=nth_len hn;have hw:=wj hi hlen;have hx:=ih x (by have:=XExpr.kid_lt (nth_in hn);omega) (Nat.le_trans (kid_sz (nth_in hn)) hs);rw[eExpr_eq]at hx;simp only[go_sem,lB_,l267_0,hi,nth_map,hn,po_has7];simp only[go_sem,eExpr_eq x,hx];cases xOk x<;>simp only[go_sem,hw]) (by simp only[go_sem,lB_,l267_0,Nat.lt_irrefl])
theorem n2:((2:Nat):Int)=2:=(rfl)
attribute [go_sem] n1 n2
theorem l267_eq:l267_1=l267_0:=(rfl)
attribute [go_sem] l267_eq
theorem wrt_eq{p:XPath}(h:isPath p=true):wrt p=(!(!p.root && (decide (p.ups=0) && badN p)) && !(p.root && p.steps.isEmpty)):=by
 obtain⟨h1,h2,h3⟩:=path_inv h;unfold wrt
 congr 1
 have:decide (0 < p.ups)=!decide (p.ups=0):=by rw[Bool.eq_iff_iff];simp;omega
 rw[this];cases p.root<;>cases decide (p.ups=0)<;>cases badN p<;>rfl
theorem q267_n(n:Nat):∀e:XExpr,SizeOf.sizeOf e < n→szC (eExpr e)≤mg→G 267 (eExpr e)=some (0,[.bool (xOk e)]):=by
 induction n with
 |zero=>intro e h;omega
 |succ n ih=>
  intro e hz hs;have hl:=l267_ok ih hz hs;have ht:=szC_expr e;have hq:=q264 (s:=e.text) (by omega);have h5:=q266 (p:=e.path) (by omega);have h6:=q263 e.path;rw[ePath]at h5 h6;refine gOf s267 (by rw[eExpr_eq];rfl) ?_;simp only[go_sem,t267,eExpr_eq];by_cases o1:e.op=1
  ·clear ih hl hz hs;have hh:exHead e=(decide (e.kids.length=0) && ((decide (e.text.size=0)) && (zp e.path && inB 0 1000000000 e.num))):=by simp[exHead,exOwn,kidsN,inB,o1]
   have h0:e.kids.length=0→xOkL e.kids=true:=kids0;have hk:e.kids.isEmpty=decide (e.kids.length=0):=by cases e.kids<;>simp
   unfold inB at hh;simp only[go_sem,len0',o1,hk]
   repeat' (first|with_reducible rfl|((first|rw[gd_n]|rw[og_n]|rw[gd_m]|rw[og_m]);split<;>simp only[go_sem,nstr0, *]))
   all_goals simp_all[xOk]
  by_cases o2:e.op=2
  ·clear ih hl hz hs;have hh:exHead e=(decide (e.kids.length=0) && ((decide (e.num=0)) && (zp e.path && isText e.text))):=by simp[exHead,exOwn,kidsN,inB,o2]
   have h0:e.kids.length=0→xOkL e.kids=true:=kids0;have hk:e.kids.isEmpty=decide (e.kids.length=0):=by cases e.kids<;>simp
   simp only[go_sem,len0',o2,hk]
   repeat' (first|with_reducible rfl|((first|rw[gd_n]|rw[og_n]|rw[gd_m]|rw[og_m]);split<;>simp only[go_sem, *]))
   all_goals simp_all[xOk]
  by_cases o4:e.op=4
  ·clear ih hl hz hs;have hh:exHead e=(decide (e.kids.length=0) && ((decide (e.num=0)) && (decide (e.text.size=0) && isPath e.path))):=by simp[exHead,exOwn,kidsN,inB,o4]
   have h0:e.kids.length=0→xOkL e.kids=true:=kids0;have hk:e.kids.isEmpty=decide (e.kids.length=0):=by cases e.kids<;>simp
   simp only[go_sem,len0',o4,hk]
   repeat' (first|with_reducible rfl|((first|rw[gd_n]|rw[og_n]|rw[gd_m]|rw[og_m]);split<;>simp only[go_sem,nstr0, *]))
   all_goals simp_all[xOk]
  by_cases o3:e.op=3
  ·clear ih hl hz hs;have hh:exHead e=(decide (e.kids.length=0) && ((decide (e.num=0)) && (decide (e.text.size=0) && (isPath e.path && wrt e.path)))):=by simp[exHead,exOwn,kidsN,inB,o3]
   have h0:e.kids.length=0→xOkL e.kids=true:=kids0;have hk:e.kids.isEmpty=decide (e.kids.length=0):=by cases e.kids<;>simp
   have hw:isPath e.path=true→wrt e.path=(!(!e.path.root && (decide (e.path.ups=0) && badN e.path)) && !(e.path.root && e.path.steps.isEmpty)):=wrt_eq;cases hst:e.path.steps with
   |nil=>
    have hb:badN e.path=false:=by simp[badN,hst]
    rw[hst]at h5;cases hrt:e.path.root with
    |true=>
     rw[hrt]at h5 h6;simp only[go_sem,len0',o3,hk]
     repeat' (first|with_reducible rfl|((first|rw[gd_n]|rw[og_n]|rw[gd_m]|rw[og_m]);split<;>simp only[go_sem,nstr0, *]))
     all_goals simp_all[xOk]
    |false=>
     rw[hrt]at h5 h6;simp only[go_sem,len0',o3,hk]
     repeat' (first|with_reducible rfl|((first|rw[gd_n]|rw[og_n]|rw[gd_m]|rw[og_m]);split<;>simp only[go_sem,nstr0, *]))
     all_goals simp_all[xOk]
   |cons s l=>
    have hb:badN e.path=(decide (s.name=orA) ||decide (s.name=andA)):=by simp[badN,hst]
    rw[hst]at h5;cases hrt:e.path.root with
    |true=>
     rw[hrt]at h5 h6;simp only[go_sem,len0',o3,hk]
     repeat' (first|with_reducible rfl|((first|rw[gd_n]|rw[og_n]|rw[gd_m]|rw[og_m]);split<;>simp only[go_sem,nstr0,List.map_cons,eStep, *]))
     all_goals simp_all[xOk]
     all_goals omega
    |false=>
     rw[hrt]at h5 h6;simp only[go_sem,len0',o3,hk]
     repeat' (first|with_reducible rfl|((first|rw[gd_n]|rw[og_n]|rw[gd_m]|rw[og_m]);split<;>simp only[go_sem,nstr0,List.map_cons,eStep,tx_or,tx_and, *]))
     all_goals simp_all[xOk]
  cases hi:inB 5 15 e.op with
  |false=>
   have hin:inB 1 15 e.op=false:=by
    rw[Bool.eq_false_iff]at hi ⊢;intro h
    apply hi
    have:=(inB_iff _ _ _).1 h;exact (inB_iff _ _ _).2 (by omega)
   have hx:xOk e=false:=by simp[xOk,exHead,hin]
   have ho:¬(5≤e.op∧e.op≤15):=fun h=>by rw[(inB_iff _ _ _).2 h]at hi;cases hi
   have o5:¬e.op=5:=by omega
   by_cases b1:e.op < 1
   ·simp only[go_sem,o1,o2,o3,o4,o5,hx,b1]
   ·have b2:15 < e.op:=by omega
    simp only[go_sem,o1,o2,o3,o4,o5,hx,b1,b2]
  |true=>
   have hr:=(inB_iff _ _ _).1 hi;have hin:inB 1 15 e.op=true:=(inB_iff _ _ _).2 (by omega);have b1:¬e.op < 1:=by omega
   have b2:¬15 < e.op:=by omega
   by_cases o5:e.op=5
   ·have hh:exHead e=(decide (e.kids.length=1) && ((decide (e.num=0)) && (decide (e.text.size=0) && zp e.path))):=by simp[exHead,exOwn,kidsN,inB,o5]
    by_cases hk:e.kids.length=1
    ·have hk':(e.kids.length:Int)=1:=by omega
     rw[hk']at hl;cases h9:xOkL e.kids with
     |false=>
      rw[h9]at hl;simp only[go_sem]at hl;simp only[go_sem,o5,hk']
      repeat' (first|with_reducible rfl|((first|rw[gd_n]|rw[og_n]|rw[gd_m]|rw[og_m]);split<;>simp only[go_sem,nstr0, *]))
      all_goals simp_all[xOk]
     |true=>
      rw[h9]at hl;simp only[go_sem]at hl;simp only[go_sem,o5,hk']
      repeat' (first|with_reducible rfl|((first|rw[gd_n]|rw[og_n]|rw[gd_m]|rw[og_m]);split<;>simp only[go_sem,nstr0, *]))
      all_goals simp_all[xOk]
    ·have hk':¬(e.kids.length:Int)=1:=by omega
     simp only[go_sem,o5,hk']
     repeat' (first|with_reducible rfl|((first|rw[gd_n]|rw[og_n]|rw[gd_m]|rw[og_m]);split<;>simp only[go_sem,hq,h5,h6,ba0,nstr0,gtL,len0',o5,hk', *]))
     all_goals simp_all[xOk]
   ·have hN:kidsN e.op=2:=by unfold kidsN;rw[if_neg (by omega),if_neg o5]
    have hh:exHead e=(decide (e.kids.length=2) && ((decide (e.num=0)) && (decide (e.text.size=0) && zp e.path))):=by simp[exHead,exOwn,hN,hin,o1,o2,o3,o4]
    by_cases hk:e.kids.length=2
    ·have hk':(e.kids.length:Int)=2:=by omega
     rw[hk']at hl;cases h9:xOkL e.kids with
     |false=>
      rw[h9]at hl;simp only[go_sem]at hl;simp only[go_sem,o1,o2,o3,o4,o5,b1,b2,hk']
      repeat' (first|with_reducible rfl|((first|rw[gd_n]|rw[og_n]|rw[gd_m]|rw[og_m]);split<;>simp only[go_sem,nstr0, *]))
      all_goals simp_all[xOk]
     |true=>
      rw[h9]at hl;simp only[go_sem]at hl;simp only[go_sem,o1,o2,o3,o4,o5,b1,b2,hk']
      repeat' (first|with_reducible rfl|((first|rw[gd_n]|rw[og_n]|rw[gd_m]|rw[og_m]);split<;>simp only[go_sem,nstr0, *]))
      all_goals simp_all[xOk]
    ·have hk':¬(e.kids.length:Int)=2:=by omega
     simp only[go_sem,o1,o2,o3,o4,o5,b1,b2,hk']
     repeat' (first|with_reducible rfl|((first|rw[gd_n]|rw[og_n]|rw[gd_m]|rw[og_m]);split<;>simp only[go_sem,hq,h5,h6,ba0,nstr0,gtL,len0',o1,o2,o3,o4,o5,b1,b2,hk', *]))
     all_goals simp_all[xOk]
theorem q267{e:XExpr}(hs:szC (eExpr e)≤mg):G 267 (eExpr e)=some (0,[.bool (xOk e)]):=q267_n _ e (Nat.lt_succ_self _) hs
def isExpr(e:XExpr):Bool:=decide (dep e≤8) && xOk e
theorem q209{e:XExpr}(hs:szC (eExpr e)≤mg):G 209 (eExpr e)=some (0,[.bool (isExpr e)]):=by
 have h1:=q203 hs;have h2:=q208 hs;have h3:decide (((dep e:Nat):Int)≤8)=decide (dep e≤8):=le_n (dep e) 8;rw[eExpr_eq]at h1 h2;refine gOf s209 (by rw[eExpr_eq];rfl) ?_;simp only[go_sem,t209,eExpr_eq,h1,h3];unfold isExpr;cases hd:decide (dep e≤8)<;>simp only[go_sem,h2]
theorem q268{e:XExpr}(hs:szC (eExpr e)≤mg):G 268 (eExpr e)=some (0,[.bool (isExpr e)]):=by
 have h1:=q262 hs;have h2:=q267 hs;have h3:decide (((dep e:Nat):Int)≤8)=decide (dep e≤8):=le_n (dep e) 8;rw[eExpr_eq]at h1 h2;refine gOf s268 (by rw[eExpr_eq];rfl) ?_;simp only[go_sem,t268,eExpr_eq,h1,h3];unfold isExpr;cases hd:decide (dep e≤8)<;>simp only[go_sem,h2]
def areX(l:List XExpr)(most:Nat):Bool:=l.all isExpr && decide (l.length≤most)
theorem q210{l:List XExpr}{m:Nat}(hs:szl eExpr l≤mg):G 210 [dExprs l,.int .i64 (m:Int)]=some (0,[.bool (areX l m)]):=by
 have hlen:l.length≤mg:=by simp only[szl]at hs;omega
 refine gOf s210 rfl ?_;simp only[go_sem,t210];have hl:=gl_all (b:=lB G l210_0) l (fun i=>(0,[dExprs l,.int .i64 (m:Int),.int .i64 (i:Int)])) isExpr (1,[dExprs l,.int .i64 (m:Int),.int .i64 l.length,.bool false]) (0,[.bool false]) (by
  intro i x hn;have hi:=nth_len hn;have hw:=wj hi hlen;have hx:=q209 (e:=x) (szl_parts hs (nth_in hn)).1;rw[eExpr_eq]at hx;simp only[go_sem,lB_,l210_0,hi,nth_map,hn,po_has7];simp only[go_sem,eExpr_eq x,hx];cases isExpr x<;>simp only[go_sem,hw]) (by simp only[go_sem,lB_,l210_0,Nat.lt_irrefl])
 rw[n0]at hl;rw[hl,areX];cases l.all isExpr<;>simp only[go_sem,le_n]
theorem q269{l:List XExpr}{m:Nat}(hs:szl eExpr l≤mg):G 269 [dExprs l,.int .i64 (m:Int)]=some (0,[.bool (areX l m)]):=by
 have hlen:l.length≤mg:=by simp only[szl]at hs;omega
 refine gOf s269 rfl ?_;simp only[go_sem,t269];have hl:=gl_all (b:=lB G l269_0) l (fun i=>(0,[dExprs l,.int .i64 (m:Int),dExprs l,.int .i64 l.length,.int .i64 (i:Int)])) isExpr (1,[dExprs l,.int .i64 (m:Int),dExprs l,.int .i64 l.length,.int .i64 l.length,.bool false]) (0,[.bool false]) (by
  intro i x hn;have hi:=nth_len hn;have hw:=wj hi hlen;have hx:=q268 (e:=x) (szl_parts hs (nth_in hn)).1;rw[eExpr_eq]at hx;simp only[go_sem,lB_,l269_0,hi,nth_map,hn,po_has7];simp only[go_sem,eExpr_eq x,hx];cases isExpr x<;>simp only[go_sem,hw]) (by simp only[go_sem,lB_,l269_0,Nat.lt_irrefl])
 rw[n0]at hl;rw[hl,areX];cases l.all isExpr<;>simp only[go_sem,le_n]
end
section
set_option maxRecDepth 100000
set_option maxHeartbeats 4000000
def lo0(l:List XRange):Bool:=match l with
 |r::_=>decide (0≤r.lo)
 |[]=>true
def okT(ip:ByteArray→Bool)(t:XType):Bool:=
 if t.kind=1 then areR t.ranges && (t.names.isEmpty && (decide (t.pattern.size=0) && decide (t.path.size=0)))
 else if t.kind=2 then areR t.ranges && (lo0 t.ranges && ((decide (t.pattern.size=0) ||ip t.pattern) && (t.names.isEmpty && decide (t.path.size=0))))
 else if t.kind=4 then inB 1 6 t.names.length && (t.ranges.isEmpty && (decide (t.pattern.size=0) && decide (t.path.size=0)))
 else if t.kind=5 then isText t.path && (!decide (t.path.size=0) && (t.ranges.isEmpty && (t.names.isEmpty && decide (t.pattern.size=0))))
 else if t.kind=3∨t.kind=6 then t.ranges.isEmpty && (t.names.isEmpty && (decide (t.pattern.size=0) && decide (t.path.size=0)))
 else false
def okNames(l:List ByteArray):Bool:=difS l && l.all isName
def isType(ip:ByteArray→Bool)(t:XType):Bool:=okNames t.names && okT ip t
theorem hasS_all(l:List ByteArray)(v:ByteArray):hasS l v=!(l.all fun x=>!decide (x=v)):=by
 induction l with
 |nil=>rfl
 |cons x l ih=>
  simp only[hasS,List.any_cons,List.all_cons]at ih ⊢;rw[ih,decide_eq_decide.2 (eq_comm (a:=v) (b:=x))];cases decide (x=v)<;>simp
theorem okNames_eq(l:List ByteArray):okNames l=allI (fun k e=>((l.take k).all fun x=>!decide (x=e)) && isName e) 0 l:=by
 have h:=allI_and (fun k (e:ByteArray)=>(l.take k).all fun x=>!decide (x=e)) (fun _ e=>isName e) 0 l;rw[okNames,h,allI_all,difS]
 congr 2
 funext i e
 rw[hasS_all,Bool.not_not]
section
variable {kd:Int} {rs:D} {pt ph:ByteArray}
theorem l228_0_ok{l:List ByteArray}{e:ByteArray}{k:Nat}(hn:nth l k=some e)(ht:szl eStr l≤mg) :
  gloop (lB G l228_0) (0,[.int .i64 (k:Int),.int .i64 0,.int .i64 kd,rs,dStrs l,.str pt,.str ph]) =
   some (if (l.take k).all (fun x=>!decide (x=e))=true then (1,[.int .i64 (k:Int),.int .i64 (k:Int),.bool false,.int .i64 kd,rs,dStrs l,.str pt,.str ph]) else (0,[.bool false])):=by
 have hk:=nth_len hn;have hlen:l.length≤mg:=by simp only[szl]at ht;omega
 have hl:=gl_allN (b:=lB G l228_0) (fun j=>(0,[.int .i64 (k:Int),.int .i64 (j:Int),.int .i64 kd,rs,dStrs l,.str pt,.str ph])) (atB (fun x=>!decide (x=e)) l) k
  (1,[.int .i64 (k:Int),.int .i64 (k:Int),.bool false,.int .i64 kd,rs,dStrs l,.str pt,.str ph]) (0,[.bool false]) (by
  intro j hj;have a1:=nth_lt (l:=l) (i:=j) (by omega);have hw:=wj (i:=j) (n:=k) hj (by omega);generalize l[j]'(by omega)=x at a1;simp only[go_sem,lB_,l228_0,hj,nth_map,hn,a1,eStr,atB];cases hc:decide (x=e)<;>simp only[go_sem,hw]) (by simp only[go_sem,lB_,l228_0,Nat.lt_irrefl]) k 0 (by omega)
 rw[n0]at hl;rw[hl,allN_nth _ l k 0 (by omega),List.drop_zero]
theorem l228_1_ok{l:List ByteArray}(ht:szl eStr l≤mg) :
  gloop (lB G l228_1) (0,[.int .i64 0,.int .i64 kd,rs,dStrs l,.str pt,.str ph]) =
   some (if okNames l=true then (1,[.int .i64 l.length,.bool false,.int .i64 kd,rs,dStrs l,.str pt,.str ph]) else (0,[.bool false])):=by
 have hlen:l.length≤mg:=by simp only[szl]at ht;omega
 have hl:=gl_allI (b:=lB G l228_1) l (fun k=>(0,[.int .i64 (k:Int),.int .i64 kd,rs,dStrs l,.str pt,.str ph])) (fun k e=>((l.take k).all fun x=>!decide (x=e)) && isName e)
  (1,[.int .i64 l.length,.bool false,.int .i64 kd,rs,dStrs l,.str pt,.str ph]) (0,[.bool false]) (by
  intro k e hn;have hk:=nth_len hn;have hw:=wj hk hlen;have h1:=q202 (s:=e) (by have:=szl_str l (nth_in hn);omega);simp only[go_sem,lB_,l228_1,hk,l228_0_ok hn ht];cases hc:(l.take k).all (fun x=>!decide (x=e)) with
  |false=>simp only[go_sem]
  |true=>
   simp only[go_sem,nth_map,hn,eStr,h1];cases h3:isName e<;>simp only[go_sem,hw]) (by simp only[go_sem,lB_,l228_1,Nat.lt_irrefl]) l.length 0 (by omega)
 rw[n0,List.drop_zero]at hl;rw[hl,okNames_eq]
end
theorem q228{ip:ByteArray→Bool}(hP:∀s:ByteArray,s.size≤mg→G 227 [.str s]=some (0,[.bool (ip s)])){t:XType}(hs:szC (eType t)≤mg):G 228 (eType t)=some (0,[.bool (isType ip t)]):=by
 rw[szC_type]at hs;have h1:=q215 (l:=t.ranges) (by simp only[szl]at hs;omega);have h2:=hP t.pattern (by omega);have h3:=q204 (s:=t.path) (by omega);refine gOf s228 rfl ?_;simp only[go_sem,t228,eType,l228_1_ok (l:=t.names) (by omega)];cases hN:okNames t.names with
 |false=>simp only[go_sem,hN,isType]
 |true=>
  simp only[go_sem,hN,isType,gtL];by_cases k1:t.kind=1
  ·have hk:okT ip t=(areR t.ranges && (t.names.isEmpty && (decide (t.pattern.size=0) && decide (t.path.size=0)))):=by simp[okT,k1]
   simp only[go_sem,h1,k1]
   repeat' (first|with_reducible rfl|((first|rw[gd_n]|rw[og_n]|rw[gd_m]|rw[og_m]);split<;>simp only[go_sem,nstr0, *]))
   all_goals simp_all
  by_cases k2:t.kind=2
  ·have hk:okT ip t=(areR t.ranges && (lo0 t.ranges && ((decide (t.pattern.size=0) ||ip t.pattern) && (t.names.isEmpty && decide (t.path.size=0))))):=by simp[okT,k2]
   cases hr:t.ranges with
   |nil=>
    have hlo:lo0 t.ranges=true:=by rw[hr];rfl
    rw[hr]at h1;simp only[go_sem,h1,k2,List.isEmpty_nil]
    repeat' (first|with_reducible rfl|((first|rw[gd_n]|rw[og_n]|rw[gd_m]|rw[og_m]);split<;>simp only[go_sem,nstr0, *]))
    all_goals simp_all
   |cons r l=>
    have hlo:lo0 t.ranges=decide (0≤r.lo):=by rw[hr];rfl
    rw[hr]at h1;simp only[go_sem,h1,k2,List.isEmpty_cons]
    repeat' (first|with_reducible rfl|((first|rw[gd_n]|rw[og_n]|rw[gd_m]|rw[og_m]);split<;>simp only[go_sem,nstr0,List.map_cons,eRange, *]))
    all_goals simp_all
  by_cases k4:t.kind=4
  ·have hk:okT ip t=(inB 1 6 t.names.length && (t.ranges.isEmpty && (decide (t.pattern.size=0) && decide (t.path.size=0)))):=by simp[okT,k4]
   simp only[go_sem,q74,k4]
   repeat' (first|with_reducible rfl|((first|rw[gd_n]|rw[og_n]|rw[gd_m]|rw[og_m]);split<;>simp only[go_sem,nstr0, *]))
   all_goals simp_all
  by_cases k5:t.kind=5
  ·have hk:okT ip t=(isText t.path && (!decide (t.path.size=0) && (t.ranges.isEmpty && (t.names.isEmpty && decide (t.pattern.size=0))))):=by simp[okT,k5]
   simp only[go_sem,h3,k5]
   repeat' (first|with_reducible rfl|((first|rw[gd_n]|rw[og_n]|rw[gd_m]|rw[og_m]);split<;>simp only[go_sem,nstr0, *]))
   all_goals simp_all
  by_cases k3:t.kind=3
  ·have hk:okT ip t=(t.ranges.isEmpty && (t.names.isEmpty && (decide (t.pattern.size=0) && decide (t.path.size=0)))):=by simp[okT,k3]
   simp only[go_sem,k3]
   repeat' (first|with_reducible rfl|((first|rw[gd_n]|rw[og_n]|rw[gd_m]|rw[og_m]);split<;>simp only[go_sem,nstr0, *]))
   all_goals simp_all
  by_cases k6:t.kind=6
  ·have hk:okT ip t=(t.ranges.isEmpty && (t.names.isEmpty && (decide (t.pattern.size=0) && decide (t.path.size=0)))):=by simp[okT,k6]
   simp only[go_sem,k6]
   repeat' (first|with_reducible rfl|((first|rw[gd_n]|rw[og_n]|rw[gd_m]|rw[og_m]);split<;>simp only[go_sem,nstr0, *]))
   all_goals simp_all
  have hk:okT ip t=false:=by simp[okT,k1,k2,k3,k4,k5,k6]
  simp only[go_sem,k1,k2,k3,k4,k5,k6,hk]
end
section
set_option maxRecDepth 100000
set_option maxHeartbeats 4000000
def zT(t:XType):Bool:=decide (t.kind=0) && (t.ranges.isEmpty && (t.names.isEmpty && (decide (t.pattern.size=0) && decide (t.path.size=0))))
theorem q270(t:XType):G 270 (eType t)=some (0,[.bool (zT t)]):=by
 refine gOf s270 rfl ?_;simp only[go_sem,t270,eType]
 repeat' (first|with_reducible rfl|((first|rw[gd_n]|rw[og_n]|rw[gd_m]|rw[og_m]);split<;>simp only[go_sem,len0',nstr0, *]))
 all_goals simp_all[zT]
theorem q211(t:XType):G 211 (eType t)=some (0,[.bool (zT t)]):=by
 refine gOf s211 rfl ?_;simp only[go_sem,t211,eType]
 repeat' (first|with_reducible rfl|((first|rw[gd_n]|rw[og_n]|rw[gd_m]|rw[og_m]);split<;>simp only[go_sem,len0',nstr0, *]))
 all_goals simp_all[zT]
theorem okN_e{l:List ByteArray}(h:l.isEmpty=true):okNames l=true:=by rw[List.isEmpty_iff.1 h];rfl
theorem areR_e{l:List XRange}(h:l.isEmpty=true):areR l=true:=by rw[List.isEmpty_iff.1 h];rfl
theorem q286{ip:ByteArray→Bool}(hP:∀s:ByteArray,s.size≤mg→G 285 [.str s]=some (0,[.bool (ip s)])){t:XType}(hs:szC (eType t)≤mg):G 286 (eType t)=some (0,[.bool (isType ip t)]):=by
 rw[szC_type]at hs;have h1:=q274 (l:=t.ranges) (by simp only[szl]at hs;omega);have h2:=hP t.pattern (by omega);have h3:=q264 (s:=t.path) (by omega);have h4:=q271 (l:=t.names) (by omega);have h5:=q257 (l:=t.names) (by simp only[szl]at hs;omega);refine gOf s286 rfl ?_;simp only[go_sem,isType,t286,eType];by_cases k1:t.kind=1
 ·have hk:okT ip t=(areR t.ranges && (t.names.isEmpty && (decide (t.pattern.size=0) && decide (t.path.size=0)))):=by simp[okT,k1]
  simp only[go_sem,gtL,k1]
  repeat' (first|with_reducible rfl|((first|rw[gd_n]|rw[og_n]|rw[gd_m]|rw[og_m]);split<;>simp only[go_sem,nstr0, *]))
  all_goals clear h1 h2 h3 h4 h5 hP hs
  all_goals simp_all[okN_e]
 by_cases k2:t.kind=2
 ·have hk:okT ip t=(areR t.ranges && (lo0 t.ranges && ((decide (t.pattern.size=0) ||ip t.pattern) && (t.names.isEmpty && decide (t.path.size=0))))):=by simp[okT,k2]
  cases hr:t.ranges with
  |nil=>
   have hlo:lo0 t.ranges=true:=by rw[hr];rfl
   rw[hr]at h1;simp only[go_sem,gtL,k2]
   repeat' (first|with_reducible rfl|((first|rw[gd_n]|rw[og_n]|rw[gd_m]|rw[og_m]);split<;>simp only[go_sem,nstr0,List.map_nil, *]))
   all_goals clear h1 h2 h3 h4 h5 hP hs
   all_goals simp_all[okN_e,areR_e]
  |cons r l=>
   have hlo:lo0 t.ranges=decide (0≤r.lo):=by rw[hr];rfl
   rw[hr]at h1;simp only[go_sem,gtL,k2]
   repeat' (first|with_reducible rfl|((first|rw[gd_n]|rw[og_n]|rw[gd_m]|rw[og_m]);split<;>simp only[go_sem,nstr0,List.map_cons,eRange, *]))
   all_goals clear h1 h2 h3 h4 h5 hP hs
   all_goals simp_all[okN_e]
   all_goals omega
 by_cases k4:t.kind=4
 ·have hk:okT ip t=(inB 1 6 t.names.length && (t.ranges.isEmpty && (decide (t.pattern.size=0) && decide (t.path.size=0)))):=by simp[okT,k4]
  unfold inB at hk;unfold okNames;simp only[go_sem,gtL,k4]
  repeat' (first|with_reducible rfl|((first|rw[gd_n]|rw[og_n]|rw[gd_m]|rw[og_m]);split<;>simp only[go_sem,nstr0, *]))
  all_goals clear h1 h2 h3 h4 h5 hP hs
  all_goals simp_all[okN_e,areR_e]
 by_cases k5:t.kind=5
 ·have hk:okT ip t=(isText t.path && (!decide (t.path.size=0) && (t.ranges.isEmpty && (t.names.isEmpty && decide (t.pattern.size=0))))):=by simp[okT,k5]
  simp only[go_sem,gtL,k5]
  repeat' (first|with_reducible rfl|((first|rw[gd_n]|rw[og_n]|rw[gd_m]|rw[og_m]);split<;>simp only[go_sem,nstr0,gtL, *]))
  all_goals clear h1 h2 h3 h4 h5 hP hs
  all_goals simp_all[okN_e]
 by_cases k3:t.kind=3
 ·have hk:okT ip t=(t.ranges.isEmpty && (t.names.isEmpty && (decide (t.pattern.size=0) && decide (t.path.size=0)))):=by simp[okT,k3]
  simp only[go_sem,gtL,k3]
  repeat' (first|with_reducible rfl|((first|rw[gd_n]|rw[og_n]|rw[gd_m]|rw[og_m]);split<;>simp only[go_sem,nstr0,gtL, *]))
  all_goals clear h1 h2 h3 h4 h5 hP hs
  all_goals simp_all[okN_e]
 by_cases k6:t.kind=6
 ·have hk:okT ip t=(t.ranges.isEmpty && (t.names.isEmpty && (decide (t.pattern.size=0) && decide (t.path.size=0)))):=by simp[okT,k6]
  simp only[go_sem,gtL,k6]
  repeat' (first|with_reducible rfl|((first|rw[gd_n]|rw[og_n]|rw[gd_m]|rw[og_m]);split<;>simp only[go_sem,nstr0,gtL, *]))
  all_goals clear h1 h2 h3 h4 h5 hP hs
  all_goals simp_all[okN_e]
 have hk:okT ip t=false:=by simp[okT,k1,k2,k3,k4,k5,k6]
 simp only[go_sem,gtL,k1,k2,hk]
 repeat' (first|with_reducible rfl|((first|rw[gd_n]|rw[og_n]|rw[gd_m]|rw[og_m]);split<;>simp only[go_sem,nstr0,gtL, *]))
end
section
set_option maxRecDepth 100000
set_option maxHeartbeats 4000000
def trueA:ByteArray:=⟨#[116,114,117,101]⟩
def falseA:ByteArray:=⟨#[102,97,108,115,101]⟩
def oneA:ByteArray:=⟨#[49]⟩
def zeroA:ByteArray:=⟨#[48]⟩
theorem tx_true:(⟨[116,114,117,101].toArray⟩:ByteArray)=trueA:=(rfl)
theorem tx_false:(⟨[102,97,108,115,101].toArray⟩:ByteArray)=falseA:=(rfl)
theorem tx_one:(⟨[49].toArray⟩:ByteArray)=oneA:=(rfl)
theorem tx_zero:(⟨[48].toArray⟩:ByteArray)=zeroA:=(rfl)
def boolV(s:ByteArray):ByteArray:=if s=oneA then trueA else if s=zeroA then falseA else s
def rawV(mt:ByteArray→ByteArray→Bool)(t:XType)(s:ByteArray):Option ByteArray:=
 if t.kind=1 then (match rdI s with
  |some n=>if inR t.ranges n=true then some (fmtI n) else none
  |none=>none)
 else if t.kind=2 then (if (isText s && (inR t.ranges s.size && (decide (t.pattern.size=0) ||mt t.pattern s)))=true then some s else none)
 else if t.kind=3 then (if (decide (boolV s=trueA) ||decide (boolV s=falseA))=true then some (boolV s) else none)
 else if t.kind=4 then (if hasS t.names s=true then some s else none)
 else if t.kind=5 then (if (isText s && !decide (s.size=0))=true then some s else none)
 else if t.kind=6 then (if s.size=0 then some s else none)
 else none
def canV(ip:ByteArray→Bool)(mt:ByteArray→ByteArray→Bool)(t:XType)(s:ByteArray):Option ByteArray:=if isType ip t=true then rawV mt t s else none
def valR:Option ByteArray→List D
 |some v=>[.str v,.bool true]
 |none=>[.str ⟨#[]⟩,.bool false]
theorem any_take_succ{l:List ByteArray}{i:Nat}{e s:ByteArray}(h:nth l i=some e):((l.take (i+1)).any fun x=>decide (x=s))=(((l.take i).any fun x=>decide (x=s)) ||decide (e=s)):=by
 rw[take_succ_nth l i e h,List.any_append];simp
theorem hasS_any(l:List ByteArray)(s:ByteArray):(l.any fun x=>decide (x=s))=hasS l s:=by
 unfold hasS
 congr 1
 funext x
 exact decide_eq_decide.2 eq_comm
theorem l237_ok{l:List ByteArray}{s o pt ph:ByteArray}{kd:Int}{rs:D}(hlen:l.length≤mg) :
  gloop (lB G l237_0) (0,[.str s,.str o,.bool false,.int .i64 0,.int .i64 kd,rs,dStrs l,.str pt,.str ph])=some (0,[.str s,.str o,.bool (hasS l s),.int .i64 l.length,.bool false,.int .i64 kd,rs,dStrs l,.str pt,.str ph]):=by
 have hl:=gl_gather (b:=lB G l237_0) l (fun i (b:Bool)=>(0,[.str s,.str o,.bool b,.int .i64 (i:Int),.int .i64 kd,rs,dStrs l,.str pt,.str ph])) (fun i=>(l.take i).any fun x=>decide (x=s))
  (0,[.str s,.str o,.bool (l.any fun x=>decide (x=s)),.int .i64 l.length,.bool false,.int .i64 kd,rs,dStrs l,.str pt,.str ph]) (by
  intro i e hn;have hi:=nth_len hn;have hw:=wj hi hlen;rw[any_take_succ hn];cases hb:(l.take i).any fun x=>decide (x=s)<;>simp only[go_sem,lB_,l237_0,hi,nth_map,hn,eStr,hw]) (by simp only[go_sem,lB_,l237_0,Nat.lt_irrefl,List.take_length]) l.length 0 (by omega)
 rw[n0,List.take_zero,List.any_nil,hasS_any]at hl;exact hl
theorem q237{ip:ByteArray→Bool}{mt:ByteArray→ByteArray→Bool}(hP:∀s:ByteArray,s.size≤mg→G 227 [.str s]=some (0,[.bool (ip s)]))(hM:∀p s:ByteArray,p.size≤mg→s.size≤mg→G 236 [.str p,.str s]=some (0,[.bool (mt p s)]))
  {t:XType} {s:ByteArray} (ht:szC (eType t)≤mg) (hs:s.size≤mg):G 237 (eType t++[.str s])=some (0,valR (canV ip mt t s)):=by
 have h8:=q228 hP ht;have hz:=ht;rw[szC_type]at hz;have h1:=q230 hs;have h4:=q204 hs;have h5:=q231 (n:=0) (by omega);have h6:=hM t.pattern s (by omega) hs;have h7:∀n:Int,G 232 [dRanges t.ranges,.int .i64 n]=some (0,[.bool (inR t.ranges n)]):=fun n=>q232 (by simp only[szl]at hz;omega);have h9:=l237_ok (l:=t.names) (s:=s) (o:=s) (pt:=t.pattern) (ph:=t.path) (kd:=t.kind) (rs:=dRanges t.ranges) (by simp only[szl]at hz;omega);rw[eType]at h8;refine gOf s237 rfl ?_;simp only[go_sem,t237,eType];have fin:∀{r:Option ByteArray},rawV mt t s=r→canV ip mt t s=if isType ip t=true then r else none:=fun h=>by rw[canV,h]
 clear hP hM;by_cases k1:t.kind=1
 ·rw[k1]at h8 h9;cases hr:rdI s with
  |none=>
   have hv:=fin (r:=none) (by simp[rawV,k1,hr]);rw[hr]at h1;clear fin h9;cases hT:isType ip t<;>rw[hT]at h8 hv<;>simp only[go_sem,k1,h1,h5,numR,hv,valR]
  |some n=>
   have hq:=q231 (n:=n) (rdI_range hr);rw[hr]at h1;cases hi:inR t.ranges n with
   |false=>
    have hv:=fin (r:=none) (by simp[rawV,k1,hr,hi]);clear fin h9;cases hT:isType ip t<;>rw[hT]at h8 hv<;>simp only[go_sem,h7,k1,h1,hq,hi,numR,hv,valR]
   |true=>
    have hv:=fin (r:=some (fmtI n)) (by simp[rawV,k1,hr,hi]);clear fin h9;cases hT:isType ip t<;>rw[hT]at h8 hv<;>simp only[go_sem,h7,k1,h1,hq,hi,numR,h8,hv,valR]
 by_cases k2:t.kind=2
 ·rw[k2]at h8 h9;have hv:=fin (r:=if (isText s && (inR t.ranges s.size && (decide (t.pattern.size=0) ||mt t.pattern s)))=true then some s else none) (by simp[rawV,k2]);clear fin h9;cases hT:isType ip t<;>rw[hT]at h8 hv<;>cases e1:isText s<;>cases e2:inR t.ranges s.size<;>by_cases e3:t.pattern.size=0<;>cases e4:mt t.pattern s<;>rw[e1,e2,e4]at hv<;>simp only[go_sem,e3]at hv<;>simp only[go_sem,h4,h6,h7,nstr0,k2,e1,e2,e3,e4,h8,hv,valR]
 by_cases k3:t.kind=3
 ·rw[k3]at h8 h9;have hv:=fin (r:=if (decide (boolV s=trueA) ||decide (boolV s=falseA))=true then some (boolV s) else none) (by simp[rawV,k3]);clear fin h9;have d1:¬oneA=zeroA:=by decide
  have d2:¬trueA=falseA:=by decide
  have d3:¬falseA=trueA:=by decide
  have d4:¬zeroA=oneA:=by decide
  have d5:¬trueA=oneA:=by decide
  have d6:¬trueA=zeroA:=by decide
  have d7:¬falseA=oneA:=by decide
  have d8:¬falseA=zeroA:=by decide
  by_cases e1:s=oneA
  ·have hb:boolV s=trueA:=by rw[boolV,if_pos e1]
   rw[hb]at hv;simp only[go_sem,d2]at hv;cases hT:isType ip t<;>rw[hT]at h8 hv<;>simp only[go_sem,tx_true,tx_one,k3,e1,h8,valR]<;>(rw[e1]at hv;simp only[go_sem,hv])
  by_cases e2:s=zeroA
  ·have hb:boolV s=falseA:=by rw[boolV,if_neg e1,if_pos e2]
   rw[hb]at hv;simp only[go_sem,d3]at hv;cases hT:isType ip t<;>rw[hT]at h8 hv<;>simp only[go_sem,tx_true,tx_false,tx_one,tx_zero,k3,e2,d3,d4,h8,valR]<;>(rw[e2]at hv;simp only[go_sem,hv])
  have hb:boolV s=s:=by rw[boolV,if_neg e1,if_neg e2]
  rw[hb]at hv;by_cases e3:s=trueA
  ·simp only[go_sem,e3,d2]at hv;cases hT:isType ip t<;>rw[hT]at h8 hv<;>simp only[go_sem,tx_true,tx_one,tx_zero,k3,e3,d5,d6,h8,valR]<;>simp only[go_sem,hv]
  by_cases e4:s=falseA
  ·simp only[go_sem,e4,d3]at hv;cases hT:isType ip t<;>rw[hT]at h8 hv<;>simp only[go_sem,tx_true,tx_false,tx_one,tx_zero,k3,e4,d3,d7,d8,h8,valR]<;>simp only[go_sem,hv]
  simp only[go_sem,e3,e4,ite_self]at hv;cases hT:isType ip t<;>rw[hT]at h8<;>simp only[go_sem,tx_true,tx_false,tx_one,tx_zero,k3,e1,e2,e3,e4,hv,valR]
 by_cases k4:t.kind=4
 ·rw[k4]at h8 h9;have hv:=fin (r:=if hasS t.names s=true then some s else none) (by simp[rawV,k4]);clear fin;cases hT:isType ip t<;>rw[hT]at h8 hv<;>cases e1:hasS t.names s<;>rw[e1]at h9 hv<;>simp only[go_sem,k4,h9,h8,hv,valR]
 by_cases k5:t.kind=5
 ·rw[k5]at h8 h9;have hv:=fin (r:=if (isText s && !decide (s.size=0))=true then some s else none) (by simp[rawV,k5]);clear fin h9;cases hT:isType ip t<;>rw[hT]at h8 hv<;>cases e1:isText s<;>by_cases e2:s.size=0<;>rw[e1]at hv<;>simp only[go_sem,e2]at hv<;>simp only[go_sem,h4,nstr0,k5,e1,e2,h8,hv,valR]
 by_cases k6:t.kind=6
 ·rw[k6]at h8 h9;have hv:=fin (r:=if s.size=0 then some s else none) (by simp[rawV,k6]);clear fin h9;cases hT:isType ip t<;>rw[hT]at h8 hv<;>by_cases e2:s.size=0<;>simp only[go_sem,e2]at hv<;>simp only[go_sem,nstr0,k6,e2,h8,hv,valR]
 have hv:=fin (r:=none) (by simp[rawV,k1,k2,k3,k4,k5,k6]);clear fin h9;cases hT:isType ip t<;>rw[hT]at h8 hv<;>simp only[go_sem,k1,k2,k3,k4,k5,k6,hv,valR]
end
section
set_option maxRecDepth 100000
set_option maxHeartbeats 4000000
theorem q311{ip:ByteArray→Bool}{mt:ByteArray→ByteArray→Bool}(hP:∀s:ByteArray,s.size≤mg→G 285 [.str s]=some (0,[.bool (ip s)]))(hM:∀p s:ByteArray,p.size≤mg→s.size≤mg→G 310 [.str p,.str s]=some (0,[.bool (mt p s)]))
  {t:XType} {s:ByteArray} (ht:szC (eType t)≤mg) (hs:s.size≤mg):G 311 (eType t++[.str s])=some (0,valR (canV ip mt t s)):=by
 have h8:=q286 hP ht;have hz:=ht;rw[szC_type]at hz;have h1:=q287 hs;have h4:=q264 hs;have h5:=q303 0;have h6:=hM t.pattern s (by omega) hs;have h7:∀n:Int,G 288 [dRanges t.ranges,.int .i64 n]=some (0,[.bool (inR t.ranges n)]):=fun n=>q288 (by simp only[szl]at hz;omega);have h9:=q99 (l:=t.names) (v:=s) (by simp only[szl]at hz;omega);rw[eType]at h8;refine gOf s311 rfl ?_;clear hP hM;cases hT:isType ip t with
 |false=>
  have hv:canV ip mt t s=none:=by rw[canV,hT];rfl
  rw[hT]at h8;simp only[go_sem,t311,eType,h8,hv,valR]
 |true=>
 have hc:canV ip mt t s=rawV mt t s:=by rw[canV,hT];rfl
 rw[hT]at h8;rw[hc];clear hc;simp only[go_sem,t311,eType,h8];clear h8;by_cases k1:t.kind=1
 ·cases hr:rdI s with
  |none=>
   have hv:rawV mt t s=none:=by simp[rawV,k1,hr]
   rw[hr]at h1;simp only[go_sem,k1,h1,h5,numR,hv,valR]
  |some n=>
   have hq:=q303 n;rw[hr]at h1;cases hi:inR t.ranges n with
   |false=>
    have hv:rawV mt t s=none:=by simp[rawV,k1,hr,hi]
    simp only[go_sem,h7,k1,h1,hq,hi,numR,hv,valR]
   |true=>
    have hv:rawV mt t s=some (fmtI n):=by simp[rawV,k1,hr,hi]
    simp only[go_sem,h7,k1,h1,hq,hi,numR,hv,valR]
 by_cases k2:t.kind=2
 ·have hv:rawV mt t s=if (isText s && (inR t.ranges s.size && (decide (t.pattern.size=0) ||mt t.pattern s)))=true then some s else none:=by simp[rawV,k2]
  cases e1:isText s<;>cases e2:inR t.ranges s.size<;>by_cases e3:t.pattern.size=0<;>cases e4:mt t.pattern s<;>rw[e1,e2,e4]at hv<;>simp only[go_sem,e3]at hv<;>simp only[go_sem,h4,h6,h7,nstr0,k2,e1,e2,e3,e4,hv,valR]
 by_cases k3:t.kind=3
 ·have hv:rawV mt t s=if (decide (boolV s=trueA) ||decide (boolV s=falseA))=true then some (boolV s) else none:=by simp[rawV,k3]
  have d1:¬oneA=zeroA:=by decide
  have d2:¬trueA=falseA:=by decide
  have d3:¬falseA=trueA:=by decide
  have d4:¬zeroA=oneA:=by decide
  have d5:¬trueA=oneA:=by decide
  have d6:¬trueA=zeroA:=by decide
  have d7:¬falseA=oneA:=by decide
  have d8:¬falseA=zeroA:=by decide
  by_cases e1:s=oneA
  ·have hb:boolV s=trueA:=by rw[boolV,if_pos e1]
   rw[hb]at hv;rw[hv];simp only[go_sem,tx_true,tx_one,tx_zero,k3,e1,d2,d6,valR]
  by_cases e2:s=zeroA
  ·have hb:boolV s=falseA:=by rw[boolV,if_neg e1,if_pos e2]
   rw[hb]at hv;rw[hv];simp only[go_sem,tx_true,tx_false,tx_one,tx_zero,k3,e2,d3,d4,valR]
  have hb:boolV s=s:=by rw[boolV,if_neg e1,if_neg e2]
  rw[hb]at hv;rw[hv];by_cases e3:s=trueA
  ·simp only[go_sem,tx_true,tx_one,tx_zero,k3,e3,d2,d5,d6,valR]
  by_cases e4:s=falseA
  ·simp only[go_sem,tx_true,tx_false,tx_one,tx_zero,k3,e4,d3,d7,d8,valR]
  simp only[go_sem,tx_true,tx_false,tx_one,tx_zero,k3,e1,e2,e3,e4,valR]
 by_cases k4:t.kind=4
 ·have hv:rawV mt t s=if hasS t.names s=true then some s else none:=by simp[rawV,k4]
  rw[hv];cases e1:hasS t.names s<;>simp only[go_sem,h9,k4,e1,valR]
 by_cases k5:t.kind=5
 ·have hv:rawV mt t s=if (isText s && !decide (s.size=0))=true then some s else none:=by simp[rawV,k5]
  rw[hv];cases e1:isText s<;>by_cases e2:s.size=0<;>simp only[go_sem,h4,nstr0,k5,e1,e2,valR]
 by_cases k6:t.kind=6
 ·have hv:rawV mt t s=if s.size=0 then some s else none:=by simp[rawV,k6]
  rw[hv];by_cases e2:s.size=0<;>simp only[go_sem,nstr0,k6,e2,valR]
 have hv:rawV mt t s=none:=by simp[rawV,k1,k2,k3,k4,k5,k6]
 rw[hv];simp only[go_sem,k1,k2,k3,k4,k5,k6,valR]
def isVal(ip:ByteArray→Bool)(mt:ByteArray→ByteArray→Bool)(t:XType)(s:ByteArray):Bool:=match canV ip mt t s with
 |some v=>decide (v=s)
 |none=>false
theorem q238{ip:ByteArray→Bool}{mt:ByteArray→ByteArray→Bool}(hP:∀s:ByteArray,s.size≤mg→G 227 [.str s]=some (0,[.bool (ip s)]))(hM:∀p s:ByteArray,p.size≤mg→s.size≤mg→G 236 [.str p,.str s]=some (0,[.bool (mt p s)]))
  {t:XType} {s:ByteArray} (ht:szC (eType t)≤mg) (hs:s.size≤mg):G 238 (eType t++[.str s])=some (0,[.bool (isVal ip mt t s)]):=by
 have h:=q237 hP hM ht hs;rw[eType]at h;refine gOf s238 rfl ?_;unfold isVal;cases hc:canV ip mt t s with
 |none=>rw[hc]at h;simp only[go_sem]at h;simp only[go_sem,t238,eType,h,valR]
 |some v=>rw[hc]at h;simp only[go_sem]at h;simp only[go_sem,t238,eType,h,valR]
theorem q312{ip:ByteArray→Bool}{mt:ByteArray→ByteArray→Bool}(hP:∀s:ByteArray,s.size≤mg→G 285 [.str s]=some (0,[.bool (ip s)]))(hM:∀p s:ByteArray,p.size≤mg→s.size≤mg→G 310 [.str p,.str s]=some (0,[.bool (mt p s)]))
  {t:XType} {s:ByteArray} (ht:szC (eType t)≤mg) (hs:s.size≤mg):G 312 (eType t++[.str s])=some (0,[.bool (isVal ip mt t s)]):=by
 have h:=q311 hP hM ht hs;rw[eType]at h;refine gOf s312 rfl ?_;unfold isVal;cases hc:canV ip mt t s with
 |none=>rw[hc]at h;simp only[go_sem]at h;simp only[go_sem,t312,eType,h,valR]
 |some v=>rw[hc]at h;simp only[go_sem]at h;simp only[go_sem,t312,eType,h,valR]
end
section
set_option maxRecDepth 100000
set_option maxHeartbeats 4000000
theorem gl_nilg{α β σ ρ:Type}{b:σ→Option (Sg σ ρ)}(es:List α)(g:α→β)(m0:Nat→σ)(m1:Nat→List β→σ)(f0:ρ)(f1:List β→ρ)
  (h0:∀e,nth es 0=some e→b (m0 0)=some (.go (m1 1 [g e])))
  (h1:∀i e,nth es i=some e→0 < i→b (m1 i ((es.take i).map g))=some (.go (m1 (i+1) ((es.take i).map g++[g e]))))
  (e0:es=[]→b (m0 0)=some (.out f0)) (e1:es≠[]→b (m1 es.length (es.map g))=some (.out (f1 (es.map g)))) :
  gloop b (m0 0)=some (if es.isEmpty=true then f0 else f1 (es.map g)):=by
 cases hes:es with
 |nil=>rw[gloop_out (e0 hes)];rfl
 |cons x l=>
  have hne:es≠[]:=by rw[hes];simp
  have go:∀m i,i+m=es.length→0 < i→gloop b (m1 i ((es.take i).map g))=some (f1 (es.map g)):=by
   intro m
   induction m with
   |zero=>
    intro i hi hp;obtain rfl:i=es.length:=by omega
    rw[List.take_length];exact gloop_out (e1 hne)
   |succ m ih=>
    intro i hi hp;have a1:=nth_lt (l:=es) (i:=i) (by omega);rw[gloop_go (h1 i _ a1 hp),← map_succ a1];exact ih (i+1) (by omega) (by omega)
  have hx:nth es 0=some x:=by rw[hes];rfl
  rw[gloop_go (h0 x hx)];have:=go (es.length - 1) 1 (by rw[hes];simp;omega) (by omega);rw[map_succ hx]at this;simp only[List.take_zero,List.map_nil,List.nil_append]at this;rw[this,hes];rfl
theorem po_appN(k by_:Nat)(fl:Bool)(es es':List (List D))(hb:by_≤65536)(h:es.length+es'.length≤2147483648):evPO (.app k by_) [.list k fl es,.list k fl es']=some (.list k fl (es++es')):=
 po_app k by_ fl es es' (of_eq_true (room_2 hb h))
theorem q76{t:XType}(ht:szC (eType t)≤mg):G 76 (eType t)=some (0,eType t):=by
 rw[szC_type]at ht;have h1:=po_appN 2 16 true [] (t.ranges.map eRange) (by decide) (by simp only[szl,mg,List.length_map,List.length_nil]at *;omega);have h2:=po_appN 1 16 true [] (t.names.map eStr) (by decide) (by simp only[szl,mg,List.length_map,List.length_nil]at *;omega);refine gOf s76 rfl ?_;simp only[go_sem,t76,eType,h1,h2]
theorem q77{p:XPath}(hs:szC (ePath p)≤mg):G 77 (ePath p)=some (0,ePath p):=by
 rw[szC_path]at hs;have hlen:p.steps.length≤mg:=by simp only[szl]at hs;omega
 refine gOf s77 rfl ?_;simp only[go_sem,t77,ePath];have hl:=gl_nilg (b:=lB G l77_0) p.steps (fun e=>e) (fun i=>(0,[.int .i64 (i:Int),.bool p.root,.int .i64 p.ups,dSteps p.steps,.bool false,.int .i64 0,.bool p.root,.int .i64 p.ups]))
  (fun i a=>(1,[.int .i64 (i:Int),.bool p.root,.int .i64 p.ups,dSteps p.steps,.bool false,.int .i64 0,.bool p.root,.int .i64 p.ups,dSteps a]))
  (0,[.int .i64 0,.bool false,.bool p.root,.int .i64 p.ups,dSteps p.steps,.bool false,.int .i64 0,.bool p.root,.int .i64 p.ups])
  (fun a=>(1,[.int .i64 p.steps.length,.bool false,.bool p.root,.int .i64 p.ups,dSteps p.steps,.bool false,.int .i64 0,.bool p.root,.int .i64 p.ups,dSteps a])) (by
   intro e hn;have hi:=nth_len hn;have hw:=wj hi hlen;have hsz:=(szl_parts hs (nth_in hn)).1;rw[szC_step]at hsz;have h1:=po_appN 2 32 true [] (e.tests.map eTest) (by decide) (by simp only[szl,mg,List.length_map,List.length_nil]at *;omega);have h2:evPO (.mkl 2 false) [.str e.name,dTests e.tests]=some (.list 2 false [[.str e.name,dTests e.tests]]):=by simp[evPO,chunk]
   have h3:=po_appN 2 40 false [] [[.str e.name,dTests e.tests]] (by decide) (by simp);have h4:evPO .pl [.str e.name]=some (.bool false):=rfl;simp only[go_sem,lB_,l77_0,hi,nth_map,hn,eStep,h1,h2,h3,h4,hw];simp[dSteps,eStep]) (by
   intro i e hn hp;have hi:=nth_len hn;have hw:=wj hi hlen;have hsz:=(szl_parts hs (nth_in hn)).1;rw[szC_step]at hsz;have h1:=po_appN 2 32 true [] (e.tests.map eTest) (by decide) (by simp only[szl,mg,List.length_map,List.length_nil]at *;omega);have h2:evPO (.mkl 2 false) [.str e.name,dTests e.tests]=some (.list 2 false [[.str e.name,dTests e.tests]]):=by simp[evPO,chunk]
   have h3:=po_appN 2 40 false ((p.steps.take i).map eStep) [[.str e.name,dTests e.tests]] (by decide) (by simp only[mg,List.length_map,List.length_take,List.length_cons,List.length_nil]at *;omega);have h4:evPO .pl [.str e.name]=some (.bool false):=rfl;simp only[go_sem,lB_,l77_0,hi,nth_map,hn,eStep,List.map_id',h1,h2,h3,h4,hw];simp[dSteps,eStep]) (by
   intro h;simp only[go_sem,lB_,l77_0,h,List.map_nil,n0,Int.lt_irrefl]) (by
   intro h;simp only[go_sem,lB_,l77_0,Nat.lt_irrefl,List.map_id'])
 rw[n0]at hl;rw[hl];cases hst:p.steps with
 |nil=>simp only[go_sem,List.isEmpty_nil,List.map_nil];rfl
 |cons s l=>simp only[go_sem,List.isEmpty_cons,List.map_id']
theorem po_mkl_one(k:Nat)(xs:List D)(h:xs.length=k)(hk:0 < k):evPO (.mkl k false) xs=some (.list k false [xs]):=by
 have h1:xs.length / k=1:=by rw[h];exact Nat.div_self hk
 have h2:xs.length % k=0:=by rw[h];exact Nat.mod_self k
 have h3:chunk k 1 xs=some [xs]:=by
  simp only[chunk];rw[if_pos (by omega),List.drop_of_length_le (by omega),List.take_of_length_le (by omega)];rfl
 simp only[evPO,h1,h2,h3,if_true];rw[if_pos (fun h=>by cases h)]
theorem q78_n(n:Nat):∀e:XExpr,SizeOf.sizeOf e < n→szC (eExpr e)≤mg→G 78 (eExpr e)=some (0,eExpr e):=by
 induction n with
 |zero=>intro e h;omega
 |succ n ih=>
  intro e hz hs;have hlen:e.kids.length≤mg:=Nat.le_trans kids_len hs;have ht:=szC_expr e;have h7:=q77 (p:=e.path) (by omega);rw[ePath]at h7;refine gOf s78 (by rw[eExpr_eq];rfl) ?_;simp only[go_sem,t78,eExpr_eq,h7];have st:∀(i:Nat) (x:XExpr) (l:List (List D)),nth e.kids i=some x→l.length≤mg→G 78 (eExpr x)=some (0,eExpr x)∧evPO .pl [.int .i64 x.op,.int .i64 x.num,.str x.text,.bool x.path.root,.int .i64 x.path.ups]=some (.bool false)∧
    evPO (.mkl 7 false) (eExpr x)=some (.list 7 false [eExpr x])∧evPO (.app 7 96) [.list 7 false l,.list 7 false [eExpr x]]=some (.list 7 false (l++[eExpr x])):=by
   intro i x l hn hl;refine⟨ih x (by have:=XExpr.kid_lt (nth_in hn);omega) (Nat.le_trans (kid_sz (nth_in hn)) hs),rfl,po_mkl_one 7 _ (eExpr_len x) (by decide),po_appN 7 96 false l [eExpr x] (by decide) (by simp only[mg,List.length_cons,List.length_nil]at *;omega)⟩
  have hl:=gl_nilg (b:=lB G l78_0) e.kids (fun e=>e) (fun i=>(0,.int .i64 (i:Int)::(eExpr e++[.int .i64 0,.int .i64 0,.str ⟨#[]⟩,.bool false,.int .i64 0,.int .i64 e.op,.int .i64 e.num,.str e.text,.bool e.path.root,.int .i64 e.path.ups,dSteps e.path.steps])))
   (fun i a=>(1,.int .i64 (i:Int)::(eExpr e++[.int .i64 0,.int .i64 0,.str ⟨#[]⟩,.bool false,.int .i64 0,.int .i64 e.op,.int .i64 e.num,.str e.text,.bool e.path.root,.int .i64 e.path.ups,dExprs a,dSteps e.path.steps])))
   (0,.int .i64 0::.bool false::(eExpr e++[.int .i64 0,.int .i64 0,.str ⟨#[]⟩,.bool false,.int .i64 0,.int .i64 e.op,.int .i64 e.num,.str e.text,.bool e.path.root,.int .i64 e.path.ups,dSteps e.path.steps]))
   (fun a=>(1,.int .i64 e.kids.length::.bool false::(eExpr e++[.int .i64 0,.int .i64 0,.str ⟨#[]⟩,.bool false,.int .i64 0,.int .i64 e.op,.int .i64 e.num,.str e.text,.bool e.path.root,.int .i64 e.path.ups,dExprs a,dSteps e.path.steps]))) (by
    intro x hn;have hi:=nth_len hn;have hw:=wj hi hlen;obtain⟨h1,h2,h3,h4⟩:=st 0 x [] hn (by simp);rw[eExpr_eq x]at h1 h3 h4;simp only[go_sem,lB_,l78_0,eExpr_eq e,hi,nth_map,hn,po_has7];simp only[go_sem,eExpr_eq x,h1,h2,h3,h4,hw];simp[dExprs,eExpr_eq x]) (by
    intro i x hn hp;have hi:=nth_len hn;have hw:=wj hi hlen;obtain⟨h1,h2,h3,h4⟩:=st i x ((e.kids.take i).map eExpr) hn (by simp only[List.length_map,List.length_take];omega);rw[eExpr_eq x]at h1 h3 h4;simp only[go_sem,lB_,l78_0,eExpr_eq e,hi,nth_map,hn,po_has7,List.map_id'];simp only[go_sem,eExpr_eq x,h1,h2,h3,h4,hw];simp[dExprs,eExpr_eq x]) (by
    intro h;simp only[go_sem,lB_,l78_0,eExpr_eq,h,List.map_nil,n0,Int.lt_irrefl]) (by
    intro h;simp only[go_sem,lB_,l78_0,eExpr_eq,Nat.lt_irrefl,List.map_id'])
  simp only[go_sem,eExpr_eq,n0]at hl;rw[hl];cases hst:e.kids with
  |nil=>simp only[go_sem,List.isEmpty_nil,List.map_nil];rfl
  |cons s l=>simp only[go_sem,List.isEmpty_cons,List.map_id']
theorem q78{e:XExpr}(hs:szC (eExpr e)≤mg):G 78 (eExpr e)=some (0,eExpr e):=q78_n _ e (Nat.lt_succ_self _) hs
end
section
set_option maxRecDepth 100000
set_option maxHeartbeats 4000000
def bS(e:XSchema):List D:=eSchema e++[.int .i64 0,.str ⟨#[]⟩,.int .i64 0,.str ⟨#[]⟩,.str ⟨#[]⟩,.str ⟨#[]⟩,.bool false,.bool false,.bool false,.bool false,.int .i64 0,.int .i64 0,.int .i64 e.kind,.str e.name,.int .i64 e.type.kind,.str e.type.pattern,.str e.type.path,.str e.default,.bool e.given,.bool e.needed,.bool e.present,.bool e.fixed,.int .i64 e.min,.int .i64 e.max,dSchemas e.kids,dStrs e.keys,dStrs e.unique]
def rS(e:XSchema):List D:=[dRanges e.type.ranges,dStrs e.type.names]
theorem l80_0_ok{e:XSchema}{w:D}(hs:szC (eSchema e)≤mg) :
  gloop (lB G l80_0) (0,.int .i64 0::(bS e++[]++rS e))=some (if e.when.isEmpty=true then (0,.int .i64 0::.bool false::(bS e++[]++rS e)) else (1,.int .i64 e.when.length::.bool false::(bS e++[dExprs e.when]++rS e))):=by
 have hz:=hs;rw[szC_schema]at hz;have hf:szl eExpr e.when≤mg:=by omega
 have hlen:e.when.length≤mg:=by simp only[szl]at hf;omega
 have st:∀(i:Nat) (x:XExpr) (l:List (List D)),nth e.when i=some x→l.length≤mg→G 78 (eExpr x)=some (0,eExpr x)∧evPO .pl [.int .i64 x.op,.int .i64 x.num,.str x.text,.bool x.path.root,.int .i64 x.path.ups]=some (.bool false)∧
   evPO (.mkl 7 false) (eExpr x)=some (.list 7 false [eExpr x])∧evPO (.app 7 96) [.list 7 false l,.list 7 false [eExpr x]]=some (.list 7 false (l++[eExpr x])):=by
  intro i x l hn hl;refine⟨q78 (szl_parts hf (nth_in hn)).1,rfl,po_mkl_one 7 _ (eExpr_len x) (by decide),po_appN 7 96 false l [eExpr x] (by decide) (by simp only[mg,List.length_cons,List.length_nil]at *;omega)⟩
 have hl:=gl_nilg (b:=lB G l80_0) e.when (fun e=>e) (fun i=>(0,.int .i64 (i:Int)::(bS e++[]++rS e))) (fun i a=>(1,.int .i64 (i:Int)::(bS e++[dExprs a]++rS e)))
  (0,.int .i64 0::.bool false::(bS e++[]++rS e)) (fun a=>(1,.int .i64 e.when.length::.bool false::(bS e++[dExprs a]++rS e))) (by
   intro x hn;have hi:=nth_len hn;have hw:=wj hi hlen;obtain⟨h1,h2,h3,h4⟩:=st 0 x [] hn (by simp);rw[eExpr_eq x]at h1 h3 h4;simp only[go_sem,lB_,l80_0,bS,rS,eSchema_eq,hi,nth_map,hn,po_has7];simp only[go_sem,eExpr_eq x,h1,h2,h3,h4,hw];simp[dExprs,eExpr_eq x]) (by
   intro i x hn hp;have hi:=nth_len hn;have hw:=wj hi hlen;obtain⟨h1,h2,h3,h4⟩:=st i x ((e.when.take i).map eExpr) hn (by simp only[List.length_map,List.length_take];omega);rw[eExpr_eq x]at h1 h3 h4;simp only[go_sem,lB_,l80_0,bS,rS,eSchema_eq,hi,nth_map,hn,po_has7,List.map_id'];simp only[go_sem,eExpr_eq x,h1,h2,h3,h4,hw];simp[dExprs,eExpr_eq x]) (by
   intro h;simp only[go_sem,lB_,l80_0,bS,rS,eSchema_eq,h,List.map_nil,n0,Int.lt_irrefl]) (by
   intro h;simp only[go_sem,lB_,l80_0,bS,rS,eSchema_eq,Nat.lt_irrefl,List.map_id'])
 rw[n0]at hl;rw[hl,List.map_id']
theorem l80_1_ok{e:XSchema}{w:D}(hs:szC (eSchema e)≤mg) :
  gloop (lB G l80_1) (0,.int .i64 0::(bS e++[]++rS e))=some (if e.must.isEmpty=true then (0,.int .i64 0::.bool false::(bS e++[]++rS e)) else (1,.int .i64 e.must.length::.bool false::(bS e++[dExprs e.must]++rS e))):=by
 have hz:=hs;rw[szC_schema]at hz;have hf:szl eExpr e.must≤mg:=by omega
 have hlen:e.must.length≤mg:=by simp only[szl]at hf;omega
 have st:∀(i:Nat) (x:XExpr) (l:List (List D)),nth e.must i=some x→l.length≤mg→G 78 (eExpr x)=some (0,eExpr x)∧evPO .pl [.int .i64 x.op,.int .i64 x.num,.str x.text,.bool x.path.root,.int .i64 x.path.ups]=some (.bool false)∧
   evPO (.mkl 7 false) (eExpr x)=some (.list 7 false [eExpr x])∧evPO (.app 7 96) [.list 7 false l,.list 7 false [eExpr x]]=some (.list 7 false (l++[eExpr x])):=by
  intro i x l hn hl;refine⟨q78 (szl_parts hf (nth_in hn)).1,rfl,po_mkl_one 7 _ (eExpr_len x) (by decide),po_appN 7 96 false l [eExpr x] (by decide) (by simp only[mg,List.length_cons,List.length_nil]at *;omega)⟩
 have hl:=gl_nilg (b:=lB G l80_1) e.must (fun e=>e) (fun i=>(0,.int .i64 (i:Int)::(bS e++[]++rS e))) (fun i a=>(1,.int .i64 (i:Int)::(bS e++[dExprs a]++rS e)))
  (0,.int .i64 0::.bool false::(bS e++[]++rS e)) (fun a=>(1,.int .i64 e.must.length::.bool false::(bS e++[dExprs a]++rS e))) (by
   intro x hn;have hi:=nth_len hn;have hw:=wj hi hlen;obtain⟨h1,h2,h3,h4⟩:=st 0 x [] hn (by simp);rw[eExpr_eq x]at h1 h3 h4;simp only[go_sem,lB_,l80_1,bS,rS,eSchema_eq,hi,nth_map,hn,po_has7];simp only[go_sem,eExpr_eq x,h1,h2,h3,h4,hw];simp[dExprs,eExpr_eq x]) (by
   intro i x hn hp;have hi:=nth_len hn;have hw:=wj hi hlen;obtain⟨h1,h2,h3,h4⟩:=st i x ((e.must.take i).map eExpr) hn (by simp only[List.length_map,List.length_take];omega);rw[eExpr_eq x]at h1 h3 h4;simp only[go_sem,lB_,l80_1,bS,rS,eSchema_eq,hi,nth_map,hn,po_has7,List.map_id'];simp only[go_sem,eExpr_eq x,h1,h2,h3,h4,hw];simp[dExprs,eExpr_eq x]) (by
   intro h;simp only[go_sem,lB_,l80_1,bS,rS,eSchema_eq,h,List.map_nil,n0,Int.lt_irrefl]) (by
   intro h;simp only[go_sem,lB_,l80_1,bS,rS,eSchema_eq,Nat.lt_irrefl,List.map_id'])
 rw[n0]at hl;rw[hl,List.map_id']
theorem l80_2_ok{e:XSchema}{w:D}(hs:szC (eSchema e)≤mg) :
  gloop (lB G l80_2) (0,.int .i64 0::(bS e++[w]++rS e))=some (if e.must.isEmpty=true then (0,.int .i64 0::.bool false::(bS e++[w]++rS e)) else (1,.int .i64 e.must.length::.bool false::(bS e++[w,dExprs e.must]++rS e))):=by
 have hz:=hs;rw[szC_schema]at hz;have hf:szl eExpr e.must≤mg:=by omega
 have hlen:e.must.length≤mg:=by simp only[szl]at hf;omega
 have st:∀(i:Nat) (x:XExpr) (l:List (List D)),nth e.must i=some x→l.length≤mg→G 78 (eExpr x)=some (0,eExpr x)∧evPO .pl [.int .i64 x.op,.int .i64 x.num,.str x.text,.bool x.path.root,.int .i64 x.path.ups]=some (.bool false)∧
   evPO (.mkl 7 false) (eExpr x)=some (.list 7 false [eExpr x])∧evPO (.app 7 96) [.list 7 false l,.list 7 false [eExpr x]]=some (.list 7 false (l++[eExpr x])):=by
  intro i x l hn hl;refine⟨q78 (szl_parts hf (nth_in hn)).1,rfl,po_mkl_one 7 _ (eExpr_len x) (by decide),po_appN 7 96 false l [eExpr x] (by decide) (by simp only[mg,List.length_cons,List.length_nil]at *;omega)⟩
 have hl:=gl_nilg (b:=lB G l80_2) e.must (fun e=>e) (fun i=>(0,.int .i64 (i:Int)::(bS e++[w]++rS e))) (fun i a=>(1,.int .i64 (i:Int)::(bS e++[w,dExprs a]++rS e)))
  (0,.int .i64 0::.bool false::(bS e++[w]++rS e)) (fun a=>(1,.int .i64 e.must.length::.bool false::(bS e++[w,dExprs a]++rS e))) (by
   intro x hn;have hi:=nth_len hn;have hw:=wj hi hlen;obtain⟨h1,h2,h3,h4⟩:=st 0 x [] hn (by simp);rw[eExpr_eq x]at h1 h3 h4;simp only[go_sem,lB_,l80_2,bS,rS,eSchema_eq,hi,nth_map,hn,po_has7];simp only[go_sem,eExpr_eq x,h1,h2,h3,h4,hw];simp[dExprs,eExpr_eq x]) (by
   intro i x hn hp;have hi:=nth_len hn;have hw:=wj hi hlen;obtain⟨h1,h2,h3,h4⟩:=st i x ((e.must.take i).map eExpr) hn (by simp only[List.length_map,List.length_take];omega);rw[eExpr_eq x]at h1 h3 h4;simp only[go_sem,lB_,l80_2,bS,rS,eSchema_eq,hi,nth_map,hn,po_has7,List.map_id'];simp only[go_sem,eExpr_eq x,h1,h2,h3,h4,hw];simp[dExprs,eExpr_eq x]) (by
   intro h;simp only[go_sem,lB_,l80_2,bS,rS,eSchema_eq,h,List.map_nil,n0,Int.lt_irrefl]) (by
   intro h;simp only[go_sem,lB_,l80_2,bS,rS,eSchema_eq,Nat.lt_irrefl,List.map_id'])
 rw[n0]at hl;rw[hl,List.map_id']
theorem XSchema.kids_lt(e:XSchema)(es:List XSchema):SizeOf.sizeOf e.kids < SizeOf.sizeOf (e::es):=by
 cases e;simp only[List.cons.sizeOf_spec,XSchema.mk.sizeOf_spec];omega
theorem XSchema.kids_lt1(e:XSchema):SizeOf.sizeOf e.kids < SizeOf.sizeOf e:=by
 cases e;simp only[XSchema.mk.sizeOf_spec];omega
theorem eSchema_len(e:XSchema):(eSchema e).length=19:=by rw[eSchema_eq];rfl
theorem po_has19(e:XSchema)(k:Nat)(fl:Bool):evPO (.has 19) [.list k fl [eSchema e]]=some (.bool false):=by
 rw[po_has,eSchema_len,if_pos (Nat.le_refl 19)]
theorem skids_sz(e:XSchema):szl eSchema e.kids≤szC (eSchema e):=by rw[szC_schema];omega
theorem q80_of{e:XSchema}(hs:szC (eSchema e)≤mg)(hk:G 79 [dSchemas e.kids]=some (0,[dSchemas e.kids])):G 80 (eSchema e)=some (0,eSchema e):=by
 have hz:=hs;rw[szC_schema]at hz;have h76:=q76 (t:=e.type) (by omega);rw[eType]at h76;have hz2:=szC_type e.type;have h1:=po_appN 1 16 true [] (e.keys.map eStr) (by decide) (by simp only[szl,mg,List.length_map,List.length_nil]at *;omega);have h2:=po_appN 1 16 true [] (e.unique.map eStr) (by decide) (by simp only[szl,mg,List.length_map,List.length_nil]at *;omega);have l0:=l80_0_ok (e:=e) (w:=.bool false) hs;have l1:=l80_1_ok (e:=e) (w:=.bool false) hs;have l2:=l80_2_ok (e:=e) (w:=dExprs e.when) hs;simp only[go_sem,bS,rS,eSchema_eq]at l0 l1 l2;refine gOf s80 (by rw[eSchema_eq];rfl) ?_;simp only[go_sem,t80,eSchema_eq,h76,h1,h2];rw[l0];cases hw:e.when with
 |nil=>
  rw[hw]at l1 l0;simp only[go_sem,List.isEmpty_nil];rw[l1];cases hm:e.must with
  |nil=>simp only[go_sem,List.isEmpty_nil,hk];rfl
  |cons x l=>simp only[go_sem,List.isEmpty_cons,hk];rfl
 |cons y m=>
  rw[hw]at l2;simp only[go_sem,List.isEmpty_cons];rw[l2];cases hm:e.must with
  |nil=>simp only[go_sem,List.isEmpty_nil,hk];rfl
  |cons x l=>simp only[go_sem,List.isEmpty_cons,hk]
end
section
set_option maxRecDepth 100000
set_option maxHeartbeats 4000000
theorem plS(x:XSchema):evPO .pl [.int .i64 x.kind,.str x.name,.int .i64 x.type.kind,.str x.type.pattern,.str x.type.path,.str x.default,.bool x.given,.bool x.needed,.bool x.present,.bool x.fixed,.int .i64 x.min,.int .i64 x.max]=some (.bool false):=(rfl)
theorem mkS(x:XSchema):evPO (.mkl 19 false) (eSchema x)=some (.list 19 false [eSchema x]):=po_mkl_one 19 _ (eSchema_len x) (by decide)
theorem appS(l:List (List D))(x:List D)(h:l.length≤mg):evPO (.app 19 272) [.list 19 false l,.list 19 false [x]]=some (.list 19 false (l++[x])):=
 po_appN 19 272 false l [x] (by decide) (by simp only[mg,List.length_cons,List.length_nil]at *;omega)
theorem q79_n(n:Nat):∀l:List XSchema,SizeOf.sizeOf l < n→szl eSchema l≤mg→G 79 [dSchemas l]=some (0,[dSchemas l]):=by
 induction n with
 |zero=>intro l h;omega
 |succ n ih=>
  intro l hz hs;have hlen:l.length≤mg:=by simp only[szl]at hs;omega
  refine gOf s79 rfl ?_;simp only[go_sem,t79];have hl:=gl_gather (b:=lB G l79_0) l (fun i (a:List XSchema)=>(0,[dSchemas l,.int .i64 (i:Int),dSchemas a])) (fun i=>l.take i) (0,[dSchemas l,.int .i64 l.length,.bool false,dSchemas l]) (by
   intro i x hn;have hi:=nth_len hn;have hw:=wj hi hlen;have hx:szC (eSchema x)≤mg:=(szl_parts hs (nth_in hn)).1;have hk:=ih x.kids (by have:=List.sizeOf_lt_of_mem (nth_in hn);have:=XSchema.kids_lt1 x;omega) (Nat.le_trans (skids_sz x) hx);have h80:=q80_of hx hk;have h2:=mkS x;have h3:=appS ((l.take i).map eSchema) (eSchema x) (by simp only[List.length_map,List.length_take];omega);rw[eSchema_eq x]at h80 h2 h3;simp only[go_sem,lB_,l79_0,hi,nth_map,hn,po_has19];simp only[go_sem,eSchema_eq x,h80,plS,h2,h3,hw,take_succ_nth _ _ _ hn];simp[dSchemas,eSchema_eq x]) (by simp only[go_sem,lB_,l79_0,Nat.lt_irrefl,List.take_length]) l.length 0 (by omega)
  rw[n0,List.take_zero]at hl;have hl':gloop (lB G l79_0) (0,[dSchemas l,.int .i64 0,.list 19 false []])=_:=hl;rw[hl'];simp only[go_sem]
theorem q79{l:List XSchema}(hs:szl eSchema l≤mg):G 79 [dSchemas l]=some (0,[dSchemas l]):=q79_n _ l (Nat.lt_succ_self _) hs
theorem q80{e:XSchema}(hs:szC (eSchema e)≤mg):G 80 (eSchema e)=some (0,eSchema e):=q80_of hs (q79 (Nat.le_trans (skids_sz e) hs))
def isDt(k:Int):Bool:=inB 1 4 k
def isCh(k:Int):Bool:=decide (k=5) ||decide (k=6)
theorem q75(k:Int):G 75 [.int .i64 k]=some (0,[.bool (isDt k)]):=by
 refine gOf s75 rfl ?_;simp only[go_sem,t75,q74,isDt]
theorem q92(k:Int):G 92 [.int .i64 k]=some (0,[.bool (isDt k)]):=by
 have h:isDt k=(decide (k=1) ||decide (k=2) ||decide (k=3) ||decide (k=4)):=by
  rw[Bool.eq_iff_iff];simp[isDt,inB];omega
 refine gOf s92 rfl ?_;simp only[go_sem,t92]
 repeat' (first|with_reducible rfl|((first|rw[gd_n]|rw[og_n]|rw[gd_m]|rw[og_m]);split<;>simp only[go_sem, *]))
 all_goals simp_all
def dk:List XSchema→List XSchema
 |[]=>[]
 |e::es=>(if isDt e.kind=true then [e] else if isCh e.kind=true then dk e.kids else [])++dk es
termination_by es=>SizeOf.sizeOf es
decreasing_by
 ·exact XSchema.kids_lt e es
 ·simp only[List.cons.sizeOf_spec];omega
def dk1(e:XSchema):List XSchema:=if isDt e.kind=true then [e] else if isCh e.kind=true then dk e.kids else []
theorem dk_cons(e:XSchema)(es:List XSchema):dk (e::es)=dk1 e++dk es:=by rw[dk];rfl
theorem dk_nil:dk []=[]:=by rw[dk]
theorem dk_app:∀(a b:List XSchema),dk (a++b)=dk a++dk b
 |[],b=>by rw[dk_nil];rfl
 |e::a,b=>by rw[List.cons_append,dk_cons,dk_cons,dk_app a b,List.append_assoc]
theorem dk_snoc(a:List XSchema)(e:XSchema):dk (a++[e])=dk a++dk1 e:=by rw[dk_app,dk_cons,dk_nil,List.append_nil]
theorem dk_sz(n:Nat):∀(es:List XSchema),SizeOf.sizeOf es < n→szl eSchema (dk es)≤szl eSchema es:=by
 induction n with
 |zero=>intro es h;omega
 |succ n ih=>
  intro es h;cases es with
  |nil=>rw[dk_nil];exact Nat.le_refl _
  |cons e es=>
   have h1:=ih es (by simp only[List.cons.sizeOf_spec]at h;omega);have h2:=ih e.kids (by have:=XSchema.kids_lt e es;omega);rw[dk_cons,szl_app,szl_cons];have h3:szl eSchema (dk1 e)≤szC (eSchema e)+1:=by
    unfold dk1;split
    ·rw[szl_cons];simp[szl,szE]
    ·split
     ·have:=skids_sz e;omega
     ·simp[szl,szE]
   omega
theorem dk_le{es:List XSchema}:szl eSchema (dk es)≤szl eSchema es:=dk_sz _ es (Nat.lt_succ_self _)
theorem dk_take{es:List XSchema}(i:Nat)(hs:szl eSchema es≤mg):(dk (es.take i)).length≤mg:=by
 have h1:=dk_le (es:=es.take i);have h2:=szl_take eSchema es i;simp only[szl]at *;omega
theorem notDt{k:Int}(h:isDt k=true):isCh k=false∧¬k=5∧¬k=6:=by
 have:=(inB_iff _ _ _).1 h;have h5:¬k=5:=by omega
 have h6:¬k=6:=by omega
 exact⟨by simp[isCh,h5,h6],h5,h6⟩
theorem q81_n(n:Nat):∀l:List XSchema,SizeOf.sizeOf l < n→szl eSchema l≤mg→G 81 [dSchemas l]=some (0,[dSchemas (dk l)]):=by
 induction n with
 |zero=>intro l h;omega
 |succ n ih=>
  intro l hz hs;have hlen:l.length≤mg:=by simp only[szl]at hs;omega
  refine gOf s81 rfl ?_;simp only[go_sem,t81];have hl:=gl_gather (b:=lB G l81_0) l (fun i (a:List XSchema)=>(0,[dSchemas l,.int .i64 (i:Int),dSchemas a])) (fun i=>dk (l.take i)) (0,[dSchemas l,.int .i64 l.length,.bool false,dSchemas (dk l)]) (by
   intro i x hn;have hi:=nth_len hn;have hw:=wj hi hlen;have hx:szC (eSchema x)≤mg:=(szl_parts hs (nth_in hn)).1;have hks:=Nat.le_trans (skids_sz x) hx;have hdl:=dk_take i hs;have hdn:=dk_take (i+1) hs;rw[take_succ_nth _ _ _ hn,dk_snoc]at hdn;rw[take_succ_nth _ _ _ hn,dk_snoc];cases hd:isDt x.kind with
   |true=>
    obtain⟨hc,k5,k6⟩:=notDt hd;have h80:=q80 hx;have h2:=mkS x;have h3:=appS ((dk (l.take i)).map eSchema) (eSchema x) (by rw[List.length_map];exact hdl);have h1:dk1 x=[x]:=by rw[dk1,if_pos hd]
    rw[eSchema_eq x]at h80 h2 h3;rw[h1];simp only[go_sem,lB_,l81_0,hi,nth_map,hn];simp only[go_sem,eSchema_eq x,q75,hd];simp only[go_sem,eSchema_eq x,hn,nth_map,h80,plS,h2,h3,k5,k6,hw];simp[dSchemas,eSchema_eq x]
   |false=>
    have h81:=ih x.kids (by have:=List.sizeOf_lt_of_mem (nth_in hn);have:=XSchema.kids_lt1 x;omega) hks;by_cases k5:x.kind=5
    ·have h1:dk1 x=dk x.kids:=by rw[dk1,if_neg (by rw[hd];simp),if_pos (by simp[isCh,k5])]
     rw[h1]at hdn ⊢;have h3:=po_appN 19 272 false ((dk (l.take i)).map eSchema) ((dk x.kids).map eSchema) (by decide) (by simp only[mg,List.length_map,List.length_append]at *;omega);rw[k5]at hd;simp only[go_sem,lB_,l81_0,hi,nth_map,hn];simp only[go_sem,eSchema_eq x,q75,hd,k5];simp only[go_sem,eSchema_eq x,hn,nth_map,k5,h81,h3,hw];simp[dSchemas]
    ·by_cases k6:x.kind=6
     ·have h1:dk1 x=dk x.kids:=by rw[dk1,if_neg (by rw[hd];simp),if_pos (by simp[isCh,k6])]
      rw[h1]at hdn ⊢;have h3:=po_appN 19 272 false ((dk (l.take i)).map eSchema) ((dk x.kids).map eSchema) (by decide) (by simp only[mg,List.length_map,List.length_append]at *;omega);rw[k6]at hd;simp only[go_sem,lB_,l81_0,hi,nth_map,hn];simp only[go_sem,eSchema_eq x,q75,hd,k6];simp only[go_sem,eSchema_eq x,hn,nth_map,k6,h81,h3,hw];simp[dSchemas]
     ·have h1:dk1 x=[]:=by rw[dk1,if_neg (by rw[hd];simp),if_neg (by simp[isCh,k5,k6])]
      rw[h1,List.append_nil];simp only[go_sem,lB_,l81_0,hi,nth_map,hn];simp only[go_sem,eSchema_eq x,q75,hd];simp only[go_sem,eSchema_eq x,hn,nth_map,k5,k6,hw]) (by simp only[go_sem,lB_,l81_0,Nat.lt_irrefl,List.take_length]) l.length 0 (by omega)
  rw[n0,List.take_zero,dk_nil]at hl;have hl':gloop (lB G l81_0) (0,[dSchemas l,.int .i64 0,.list 19 false []])=_:=hl;rw[hl'];simp only[go_sem]
theorem q81{l:List XSchema}(hs:szl eSchema l≤mg):G 81 [dSchemas l]=some (0,[dSchemas (dk l)]):=q81_n _ l (Nat.lt_succ_self _) hs
end
section
set_option maxRecDepth 100000
set_option maxHeartbeats 4000000
def dkF(c:Bool)(l:List XSchema):List Bool:=match l with
 |[]=>[]
 |e::es=>(if isDt e.kind=true then [c] else if isCh e.kind=true then dkF (c ||decide (e.kind=6)) e.kids else [])++dkF c es
termination_by SizeOf.sizeOf l
decreasing_by
 ·exact XSchema.kids_lt e es
 ·simp only[List.cons.sizeOf_spec];omega
def dkF1(c:Bool)(e:XSchema):List Bool:=if isDt e.kind=true then [c] else if isCh e.kind=true then dkF (c ||decide (e.kind=6)) e.kids else []
theorem dkF_cons(c:Bool)(e:XSchema)(es:List XSchema):dkF c (e::es)=dkF1 c e++dkF c es:=by rw[dkF];rfl
theorem dkF_nil(c:Bool):dkF c []=[]:=by rw[dkF]
theorem dkF_snoc(c:Bool)(e:XSchema):∀(a:List XSchema),dkF c (a++[e])=dkF c a++dkF1 c e
 |[]=>by rw[List.nil_append,dkF_cons,dkF_nil];simp
 |x::a=>by rw[List.cons_append,dkF_cons,dkF_cons,dkF_snoc c e a,List.append_assoc]
theorem dkF_len(n:Nat):∀(c:Bool) (l:List XSchema),SizeOf.sizeOf l < n→(dkF c l).length=(dk l).length:=by
 induction n with
 |zero=>intro c l h;omega
 |succ n ih=>
  intro c l h;cases l with
  |nil=>rw[dkF_nil,dk_nil];rfl
  |cons e es=>
   rw[dkF_cons,dk_cons,List.length_append,List.length_append,ih c es (by simp only[List.cons.sizeOf_spec]at h;omega)]
   congr 1
   unfold dkF1 dk1;split
   ·rfl
   ·split
    ·exact ih _ e.kids (by have:=XSchema.kids_lt e es;omega)
    ·rfl
theorem dkF_le(c:Bool)(l:List XSchema):(dkF c l).length=(dk l).length:=dkF_len _ c l (Nat.lt_succ_self _)
def kE{α:Type}(l:List α):Nat:=if l.isEmpty=true then 0 else 1
theorem nplS(x:XSchema):evPO .npl (eSchema x)=some (.bool false):=by rw[eSchema_eq];rfl
theorem kE_nil{α:Type}:kE ([]:List α)=0:=(rfl)
theorem kE_app{α:Type}(l m:List α)(h:m≠[]):kE (l++m)=1:=by
 unfold kE;rw[if_neg];cases l<;>cases m<;>simp_all
theorem kE_ne{α:Type}{l:List α}(h:l≠[]):kE l=1:=by simpa using kE_app [] l h
theorem appSS(a b:List XSchema)(h:a.length+b.length≤mg):evPO (.app 19 272) [dSchemas a,dSchemas b]=some (dSchemas (a++b)):=by
 have:=po_appN 19 272 false (a.map eSchema) (b.map eSchema) (by decide) (by simp only[mg,List.length_map]at *;omega);rw[← List.map_append]at this;exact this
theorem appBB(a b:List Bool)(h:a.length+b.length≤mg):evPO (.app 1 1) [dBools a,dBools b]=some (dBools (a++b)):=by
 have:=po_appN 1 1 true (a.map eBool) (b.map eBool) (by decide) (by simp only[mg,List.length_map]at *;omega);rw[← List.map_append]at this;exact this
theorem mkB(c:Bool):evPO (.mkl 1 true) [.bool c]=some (dBools [c]):=by simp[evPO,chunk,plains,D.plain,eBool,dBools]
theorem q93_n(n:Nat):∀(l:List XSchema) (c:Bool),SizeOf.sizeOf l < n→szl eSchema l≤mg→G 93 [dSchemas l,.bool c]=some (kE (dk l),[dSchemas (dk l),dBools (dkF c l)]):=by
 induction n with
 |zero=>intro l c h;omega
 |succ n ih=>
  intro l c hz hs;have hlen:l.length≤mg:=by simp only[szl]at hs;omega
  refine gOf s93 rfl ?_;simp only[go_sem,t93];have hl:=gl_gather (b:=lB G l93_0) l (fun i (a:List XSchema×List Bool)=>(kE a.1,[.bool c,dSchemas l,.int .i64 l.length,.int .i64 (i:Int),dSchemas a.1,dBools a.2])) (fun i=>(dk (l.take i),dkF c (l.take i)))
   (kE (dk l),[.bool c,dSchemas l,.int .i64 l.length,.int .i64 l.length,.bool false,dSchemas (dk l),dBools (dkF c l)]) (by
   intro i x hn;have hi:=nth_len hn;have hw:=wj hi hlen;have hx:szC (eSchema x)≤mg:=(szl_parts hs (nth_in hn)).1;have hks:=Nat.le_trans (skids_sz x) hx;have hdl:=dk_take i hs;have hdn:=dk_take (i+1) hs;have hfl:=dkF_le c (l.take i);rw[take_succ_nth _ _ _ hn,dk_snoc]at hdn;rw[take_succ_nth _ _ _ hn,dk_snoc,dkF_snoc];have hemp:dk (l.take i)=[]→dkF c (l.take i)=[]:=fun h=>List.length_eq_zero_iff.1 (by rw[hfl,h];rfl);have hfl1:(dkF1 c x).length=(dk1 x).length:=by
    have h1:=dkF_le c [x];rw[dkF_cons,dkF_nil,dk_cons,dk_nil]at h1
    simpa using h1
   have hA:=appSS (dk (l.take i)) (dk1 x) (by rw[List.length_append]at hdn;exact hdn);have hB:=appBB (dkF c (l.take i)) (dkF1 c x) (by rw[hfl,hfl1];rw[List.length_append]at hdn;exact hdn);have hm:=mkB c;have hMk:=mkS x;have hNp:=nplS x;rw[eSchema_eq x]at hMk hNp;generalize hda:dk (l.take i)=a at *;generalize hfa:dkF c (l.take i)=f at *;cases hd:isDt x.kind with
   |true=>
    have h1:dk1 x=[x]:=by rw[dk1,if_pos hd]
    have h2:dkF1 c x=[c]:=by rw[dkF1,if_pos hd]
    rw[h1]at hA ⊢;rw[h2]at hB ⊢;have hA':evPO (.app 19 272) [dSchemas a,.list 19 false [eSchema x]]=some (dSchemas (a++[x])):=hA;rw[eSchema_eq x]at hA';rw[kE_app a [x] (by simp)];cases a with
    |nil=>
     have hf:=hemp rfl;subst hf;simp only[go_sem,lB_,l93_0,kE_nil,hi,nth_map,hn,po_has19];simp only[go_sem,eSchema_eq x,q92,hd,hNp,hMk,hA',hm,hB,hw]
    |cons y a=>
     simp only[go_sem,lB_,l93_0,kE_ne (List.cons_ne_nil y a),hi,nth_map,hn,po_has19];simp only[go_sem,eSchema_eq x,q92,hd,hNp,hMk,hA',hm,hB,hw]
   |false=>
    have hd0:=hd;by_cases k6:x.kind=6
    ·have h1:dk1 x=dk x.kids:=by rw[dk1,if_neg (by rw[hd];simp),if_pos (by simp[isCh,k6])]
     have k5:¬x.kind=5:=by omega
     rw[h1]at hA ⊢;rw[k6]at hd;cases c with
     |true=>
      have h93:=ih x.kids true (by have:=List.sizeOf_lt_of_mem (nth_in hn);have:=XSchema.kids_lt1 x;omega) hks;have h2:dkF1 true x=dkF true x.kids:=by rw[dkF1,if_neg (by rw[hd0];simp),if_pos (by simp[isCh,k6])];simp[k6]
      rw[h2]at hB ⊢;cases hq:dk x.kids with
      |nil=>
       rw[hq]at h93 hA;have hg:dkF true x.kids=[]:=List.length_eq_zero_iff.1 (by rw[dkF_le,hq];rfl);rw[hg]at h93 hB ⊢;cases a with
       |nil=>
        have hf:=hemp rfl;subst hf;rw[List.append_nil,List.append_nil];simp only[go_sem,lB_,l93_0,kE_nil,kE_nil,hi,nth_map,hn,po_has19];simp only[go_sem,eSchema_eq x,q92,hd,k6,h93,kE_nil,hA,hB,hw,List.append_nil]
       |cons y a=>
        rw[List.append_nil,List.append_nil];simp only[go_sem,lB_,l93_0,kE_ne (List.cons_ne_nil y a),hi,nth_map,hn,po_has19];simp only[go_sem,eSchema_eq x,q92,hd,k6,h93,kE_nil,hA,hB,hw,List.append_nil]
      |cons u b=>
       rw[hq]at h93 hA;cases a with
       |nil=>
        have hf:=hemp rfl;subst hf;rw[kE_app _ (u::b) (by simp)];simp only[go_sem,lB_,l93_0,kE_nil,hi,nth_map,hn,po_has19];simp only[go_sem,eSchema_eq x,q92,hd,k6,h93,kE_ne (List.cons_ne_nil u b),hA,hB,hw]
       |cons y a=>
        rw[kE_app _ (u::b) (by simp)];simp only[go_sem,lB_,l93_0,kE_ne (List.cons_ne_nil y a),hi,nth_map,hn,po_has19];simp only[go_sem,eSchema_eq x,q92,hd,k6,h93,kE_ne (List.cons_ne_nil u b),hA,hB,hw]
     |false=>
      have h93:=ih x.kids true (by have:=List.sizeOf_lt_of_mem (nth_in hn);have:=XSchema.kids_lt1 x;omega) hks;have h2:dkF1 false x=dkF true x.kids:=by rw[dkF1,if_neg (by rw[hd0];simp),if_pos (by simp[isCh,k6])];simp[k6]
      rw[h2]at hB ⊢;cases hq:dk x.kids with
      |nil=>
       rw[hq]at h93 hA;have hg:dkF true x.kids=[]:=List.length_eq_zero_iff.1 (by rw[dkF_le,hq];rfl);rw[hg]at h93 hB ⊢;cases a with
       |nil=>
        have hf:=hemp rfl;subst hf;rw[List.append_nil,List.append_nil];simp only[go_sem,lB_,l93_0,kE_nil,kE_nil,hi,nth_map,hn,po_has19];simp only[go_sem,eSchema_eq x,q92,hd,k6,h93,kE_nil,hA,hB,hw,List.append_nil]
       |cons y a=>
        rw[List.append_nil,List.append_nil];simp only[go_sem,lB_,l93_0,kE_ne (List.cons_ne_nil y a),hi,nth_map,hn,po_has19];simp only[go_sem,eSchema_eq x,q92,hd,k6,h93,kE_nil,hA,hB,hw,List.append_nil]
      |cons u b=>
       rw[hq]at h93 hA;cases a with
       |nil=>
        have hf:=hemp rfl;subst hf;rw[kE_app _ (u::b) (by simp)];simp only[go_sem,lB_,l93_0,kE_nil,hi,nth_map,hn,po_has19];simp only[go_sem,eSchema_eq x,q92,hd,k6,h93,kE_ne (List.cons_ne_nil u b),hA,hB,hw]
       |cons y a=>
        rw[kE_app _ (u::b) (by simp)];simp only[go_sem,lB_,l93_0,kE_ne (List.cons_ne_nil y a),hi,nth_map,hn,po_has19];simp only[go_sem,eSchema_eq x,q92,hd,k6,h93,kE_ne (List.cons_ne_nil u b),hA,hB,hw]
    ·by_cases k5:x.kind=5
     ·have h1:dk1 x=dk x.kids:=by rw[dk1,if_neg (by rw[hd];simp),if_pos (by simp[isCh,k5])]
      rw[h1]at hA ⊢;rw[k5]at hd;cases c with
      |true=>
       have h93:=ih x.kids true (by have:=List.sizeOf_lt_of_mem (nth_in hn);have:=XSchema.kids_lt1 x;omega) hks;have h2:dkF1 true x=dkF true x.kids:=by rw[dkF1,if_neg (by rw[hd0];simp),if_pos (by simp[isCh,k5])];simp[k5]
       rw[h2]at hB ⊢;cases hq:dk x.kids with
       |nil=>
        rw[hq]at h93 hA;have hg:dkF true x.kids=[]:=List.length_eq_zero_iff.1 (by rw[dkF_le,hq];rfl);rw[hg]at h93 hB ⊢;cases a with
        |nil=>
         have hf:=hemp rfl;subst hf;rw[List.append_nil,List.append_nil];simp only[go_sem,lB_,l93_0,kE_nil,kE_nil,hi,nth_map,hn,po_has19];simp only[go_sem,eSchema_eq x,q92,hd,k5,h93,kE_nil,hA,hB,hw,List.append_nil]
        |cons y a=>
         rw[List.append_nil,List.append_nil];simp only[go_sem,lB_,l93_0,kE_ne (List.cons_ne_nil y a),hi,nth_map,hn,po_has19];simp only[go_sem,eSchema_eq x,q92,hd,k5,h93,kE_nil,hA,hB,hw,List.append_nil]
       |cons u b=>
        rw[hq]at h93 hA;cases a with
        |nil=>
         have hf:=hemp rfl;subst hf;rw[kE_app _ (u::b) (by simp)];simp only[go_sem,lB_,l93_0,kE_nil,hi,nth_map,hn,po_has19];simp only[go_sem,eSchema_eq x,q92,hd,k5,h93,kE_ne (List.cons_ne_nil u b),hA,hB,hw]
        |cons y a=>
         rw[kE_app _ (u::b) (by simp)];simp only[go_sem,lB_,l93_0,kE_ne (List.cons_ne_nil y a),hi,nth_map,hn,po_has19];simp only[go_sem,eSchema_eq x,q92,hd,k5,h93,kE_ne (List.cons_ne_nil u b),hA,hB,hw]
      |false=>
       have h93:=ih x.kids false (by have:=List.sizeOf_lt_of_mem (nth_in hn);have:=XSchema.kids_lt1 x;omega) hks;have h2:dkF1 false x=dkF false x.kids:=by rw[dkF1,if_neg (by rw[hd0];simp),if_pos (by simp[isCh,k5])];simp[k5]
       rw[h2]at hB ⊢;cases hq:dk x.kids with
       |nil=>
        rw[hq]at h93 hA;have hg:dkF false x.kids=[]:=List.length_eq_zero_iff.1 (by rw[dkF_le,hq];rfl);rw[hg]at h93 hB ⊢;cases a with
        |nil=>
         have hf:=hemp rfl;subst hf;rw[List.append_nil,List.append_nil];simp only[go_sem,lB_,l93_0,kE_nil,kE_nil,hi,nth_map,hn,po_has19];simp only[go_sem,eSchema_eq x,q92,hd,k5,h93,kE_nil,hA,hB,hw,List.append_nil]
        |cons y a=>
         rw[List.append_nil,List.append_nil];simp only[go_sem,lB_,l93_0,kE_ne (List.cons_ne_nil y a),hi,nth_map,hn,po_has19];simp only[go_sem,eSchema_eq x,q92,hd,k5,h93,kE_nil,hA,hB,hw,List.append_nil]
       |cons u b=>
        rw[hq]at h93 hA;cases a with
        |nil=>
         have hf:=hemp rfl;subst hf;rw[kE_app _ (u::b) (by simp)];simp only[go_sem,lB_,l93_0,kE_nil,hi,nth_map,hn,po_has19];simp only[go_sem,eSchema_eq x,q92,hd,k5,h93,kE_ne (List.cons_ne_nil u b),hA,hB,hw]
        |cons y a=>
         rw[kE_app _ (u::b) (by simp)];simp only[go_sem,lB_,l93_0,kE_ne (List.cons_ne_nil y a),hi,nth_map,hn,po_has19];simp only[go_sem,eSchema_eq x,q92,hd,k5,h93,kE_ne (List.cons_ne_nil u b),hA,hB,hw]
     ·have h1:dk1 x=[]:=by rw[dk1,if_neg (by rw[hd];simp),if_neg (by simp[isCh,k5,k6])]
      have h2:dkF1 c x=[]:=by rw[dkF1,if_neg (by rw[hd];simp),if_neg (by simp[isCh,k5,k6])]
      rw[h1,h2,List.append_nil,List.append_nil];cases a with
      |nil=>
       simp only[go_sem,lB_,l93_0,kE_nil,hi,nth_map,hn,po_has19];simp only[go_sem,eSchema_eq x,q92,hd,k5,k6,hw]
      |cons y a=>
       simp only[go_sem,lB_,l93_0,kE_ne (List.cons_ne_nil y a),hi,nth_map,hn,po_has19];simp only[go_sem,eSchema_eq x,q92,hd,k5,k6,hw]) (by
   rw[List.take_length];cases hd:dk l with
   |nil=>simp only[go_sem,lB_,l93_0,kE_nil,Nat.lt_irrefl]
   |cons y a=>simp only[go_sem,lB_,l93_0,kE_ne (List.cons_ne_nil y a),Nat.lt_irrefl]) l.length 0 (by omega)
  rw[n0,List.take_zero,dk_nil,dkF_nil]at hl;have hl':gloop (lB G l93_0) (0,[.bool c,dSchemas l,.int .i64 l.length,.int .i64 0,.list 19 false [],.list 1 true []])=_:=hl;rw[hl'];cases hd:dk l with
  |nil=>simp only[go_sem,kE_nil]
  |cons y a=>simp only[go_sem,kE_ne (List.cons_ne_nil y a)]
theorem q93{l:List XSchema}{c:Bool}(hs:szl eSchema l≤mg):G 93 [dSchemas l,.bool c]=some (kE (dk l),[dSchemas (dk l),dBools (dkF c l)]):=q93_n _ l c (Nat.lt_succ_self _) hs
theorem q94{l:List XSchema}(hs:szl eSchema l≤mg):G 94 [dSchemas l]=some (kE (dk l),[dSchemas (dk l)]):=by
 have h:=q93 (c:=false) hs;refine gOf s94 rfl ?_;cases hd:dk l with
 |nil=>rw[hd]at h;simp only[go_sem,t94,h,kE_nil]
 |cons y a=>rw[hd]at h;simp only[go_sem,t94,h,kE_ne (List.cons_ne_nil y a)]
end
section
set_option maxRecDepth 100000
set_option maxHeartbeats 4000000
def sfind(l:List XSchema)(nm:ByteArray):Option Nat:=fnd (fun e=>decide (e.name=nm)) l 0
theorem q82{l:List XSchema}{nm:ByteArray}(hlen:l.length≤mg):G 82 [dSchemas l,.str nm]=some (0,[.int .i64 (ofI (sfind l nm))]):=by
 refine gOf s82 rfl ?_;simp only[go_sem,t82];have hl:=gl_find0 (b:=lB G l82_0) l (fun i=>(0,[dSchemas l,.str nm,.int .i64 (i:Int)])) (fun e=>decide (e.name=nm)) (1,[dSchemas l,.str nm,.int .i64 l.length,.bool false]) (fun i e=>(0,[.int .i64 (i:Int)])) (by
  intro i e hn;have hi:=nth_len hn;have hw:=wj hi hlen;simp only[go_sem,lB_,l82_0,hi,nth_map,hn,eSchema_eq];cases hc:decide (e.name=nm)<;>simp only[go_sem,hw]) (by simp only[go_sem,lB_,l82_0,Nat.lt_irrefl])
 rw[n0]at hl;rw[hl];unfold sfind;cases hf:fnd (fun e=>decide (e.name=nm)) l 0 with
 |none=>simp only[go_sem,ofI]
 |some j=>
  obtain⟨e,h1,h2⟩:=fnd_nth0 hf;simp only[go_sem,h1,ofI]
theorem q95{l:List XSchema}(hlen:l.length≤mg):G 95 [dSchemas l]=some (0,[dStrs (l.map XSchema.name)]):=by
 refine gOf s95 rfl ?_;simp only[go_sem,t95];have hl:=gl_gather (b:=lB G l95_0) l (fun i (a:List ByteArray)=>(0,[dSchemas l,.int .i64 l.length,.int .i64 (i:Int),dStrs a])) (fun i=>(l.take i).map XSchema.name) (0,[dSchemas l,.int .i64 l.length,.int .i64 l.length,.bool false,dStrs (l.map XSchema.name)]) (by
  intro i e hn;have hi:=nth_len hn;have hw:=wj hi hlen;have hap:evPO (.app 1 16) [dStrs ((l.take i).map XSchema.name),.list 1 true [[.str e.name]]]=some (dStrs ((l.take (i+1)).map XSchema.name)):=by
   have h:=po_appN 1 16 true (((l.take i).map XSchema.name).map eStr) [[.str e.name]] (by decide) (by simp only[mg,List.length_map,List.length_take,List.length_cons,List.length_nil]at *;omega);rw[h,map_succ hn];simp[eStr]
  have hmk:evPO (.mkl 1 true) [.str e.name]=some (.list 1 true [[.str e.name]]):=by simp[evPO,chunk,plains,D.plain]
  simp only[go_sem,lB_,l95_0,hi,nth_map,hn,po_has19];simp only[go_sem,eSchema_eq e,hmk,hap,hw]) (by simp only[go_sem,lB_,l95_0,Nat.lt_irrefl,List.take_length]) l.length 0 (by omega)
 rw[n0,List.take_zero]at hl;have hl':gloop (lB G l95_0) (0,[dSchemas l,.int .i64 l.length,.int .i64 0,.list 1 true []])=_:=hl;rw[hl'];simp only[go_sem]
theorem l212_ok{l:List ByteArray}{e:ByteArray}{k:Nat}(hn:nth l k=some e)(hlen:l.length≤mg) :
  gloop (lB G l212_0) (0,[dStrs l,.int .i64 (k:Int),.int .i64 0])=some (if (l.take k).all (fun x=>!decide (x=e))=true then (1,[dStrs l,.int .i64 (k:Int),.int .i64 (k:Int),.bool false]) else (0,[.bool false])):=by
 have hk:=nth_len hn;have hl:=gl_allN (b:=lB G l212_0) (fun j=>(0,[dStrs l,.int .i64 (k:Int),.int .i64 (j:Int)])) (atB (fun x=>!decide (x=e)) l) k (1,[dStrs l,.int .i64 (k:Int),.int .i64 (k:Int),.bool false]) (0,[.bool false]) (by
  intro j hj;have a1:=nth_lt (l:=l) (i:=j) (by omega);have hw:=wj (i:=j) (n:=k) hj (by omega);generalize l[j]'(by omega)=x at a1;simp only[go_sem,lB_,l212_0,hj,nth_map,hn,a1,eStr,atB];cases hc:decide (x=e)<;>simp only[go_sem,hw]) (by simp only[go_sem,lB_,l212_0,Nat.lt_irrefl]) k 0 (by omega)
 rw[n0]at hl;rw[hl,allN_nth _ l k 0 (by omega),List.drop_zero]
def okKeys(l:List ByteArray):Bool:=difS l && decide (l.length≤3)
theorem difS_eq(l:List ByteArray):difS l=allI (fun k e=>(l.take k).all fun x=>!decide (x=e)) 0 l:=by
 rw[difS]
 congr 1
 funext i e
 rw[hasS_all,Bool.not_not]
theorem q212{l:List ByteArray}(hlen:l.length≤mg):G 212 [dStrs l]=some (0,[.bool (okKeys l)]):=by
 refine gOf s212 rfl ?_;simp only[go_sem,t212];have hl:=gl_allI (b:=lB G l212_1) l (fun k=>(0,[dStrs l,.int .i64 (k:Int)])) (fun k e=>(l.take k).all fun x=>!decide (x=e)) (1,[dStrs l,.int .i64 l.length,.bool false]) (0,[.bool false]) (by
  intro k e hn;have hk:=nth_len hn;have hw:=wj hk hlen;simp only[go_sem,lB_,l212_1,hk,l212_ok hn hlen];cases hc:(l.take k).all (fun x=>!decide (x=e))<;>simp only[go_sem,hw]) (by simp only[go_sem,lB_,l212_1,Nat.lt_irrefl]) l.length 0 (by omega)
 rw[n0,List.drop_zero]at hl;rw[hl,okKeys,difS_eq];cases allI (fun k e=>(l.take k).all fun x=>!decide (x=e)) 0 l<;>simp only[go_sem,leL3]
def okSize(e:XSchema):Bool:=inB 0 1000000000 e.min && (decide (e.max=0) ||inB e.min 1000000000 e.max)
theorem q213(e:XSchema):G 213 (eSchema e)=some (0,[.bool (okSize e)]):=by
 refine gOf s213 (by rw[eSchema_eq];rfl) ?_;simp only[go_sem,t213,eSchema_eq,q74]
 repeat' (first|with_reducible rfl|((first|rw[gd_n]|rw[og_n]|rw[gd_m]|rw[og_m]);split<;>simp only[go_sem,q74, *]))
 all_goals simp_all[okSize]
theorem okSize_eq(e:XSchema):okSize e=(decide (0≤e.min) && (decide (e.min≤1000000000) && (decide (0≤e.max) && (decide (e.max≤1000000000) && (decide (e.max=0) ||decide (e.min≤e.max)))))):=by
 rw[Bool.eq_iff_iff];simp only[okSize,inB,Bool.and_eq_true,Bool.or_eq_true,decide_eq_true_eq];omega
theorem q272(e:XSchema):G 272 (eSchema e)=some (0,[.bool (okSize e)]):=by
 rw[okSize_eq];refine gOf s272 (by rw[eSchema_eq];rfl) ?_;simp only[go_sem,t272,eSchema_eq]
 repeat' (first|with_reducible rfl|((first|rw[gd_n]|rw[og_n]|rw[gd_m]|rw[og_m]);split<;>simp only[go_sem, *]))
 all_goals simp_all
end
section
set_option maxRecDepth 100000
set_option maxHeartbeats 4000000
def cnSchema:List XSchema→Nat
 |[]=>0
 |e::es=>1+cnSchema e.kids+cnSchema es
termination_by es=>SizeOf.sizeOf es
decreasing_by
 ·exact XSchema.kids_lt e es
 ·simp only[List.cons.sizeOf_spec];omega
def blSchema:List XSchema→Nat
 |[]=>0
 |e::es=>cnSchema e.kids+blSchema es
theorem cnSchema_eq:∀(l:List XSchema),cnSchema l=l.length+blSchema l
 |[]=>by rw[cnSchema];rfl
 |e::l=>by rw[cnSchema,cnSchema_eq l,blSchema,List.length_cons];omega
theorem blSchema_snoc(e:XSchema):∀(l:List XSchema),blSchema (l++[e])=blSchema l+cnSchema e.kids
 |[]=>by simp[blSchema]
 |x::l=>by rw[List.cons_append,blSchema,blSchema,blSchema_snoc e l];omega
theorem blSchema_take(l:List XSchema)(i:Nat):blSchema l=blSchema (l.take i)+blSchema (l.drop i):=by
 have app:∀(a b:List XSchema),blSchema (a++b)=blSchema a+blSchema b:=by
  intro a
  induction a with
  |nil=>intro b;simp[blSchema]
  |cons x a ih=>intro b;rw[List.cons_append,blSchema,blSchema,ih b];omega
 rw[← app,List.take_append_drop]
theorem cnSchema_le(n:Nat):∀(l:List XSchema),SizeOf.sizeOf l < n→cnSchema l≤szl eSchema l:=by
 induction n with
 |zero=>intro l h;omega
 |succ n ih=>
  intro l h;cases l with
  |nil=>rw[cnSchema];omega
  |cons e l=>
   have h1:=ih l (by simp only[List.cons.sizeOf_spec]at h;omega);have h2:=ih e.kids (by have:=XSchema.kids_lt e l;omega);rw[cnSchema,szl_cons];have:=skids_sz e;omega
theorem cnSchema_sz{l:List XSchema}:cnSchema l≤szl eSchema l:=cnSchema_le _ l (Nat.lt_succ_self _)
theorem q255_n(n:Nat):∀l:List XSchema,SizeOf.sizeOf l < n→szl eSchema l≤mg→G 255 [dSchemas l]=some (0,[.int .i64 (cnSchema l)]):=by
 induction n with
 |zero=>intro l h;omega
 |succ n ih=>
  intro l hz hs;have hlen:l.length≤mg:=by simp only[szl]at hs;omega
  refine gOf s255 rfl ?_;simp only[go_sem,t255];have hl:=gl_gather (b:=lB G l255_0) l (fun i (m:Nat)=>(0,[.int .i64 (m:Int),dSchemas l,.int .i64 l.length,.int .i64 (i:Int)])) (fun i=>l.length+blSchema (l.take i)) (0,[.int .i64 (cnSchema l),dSchemas l,.int .i64 l.length,.int .i64 l.length,.bool false]) (by
   intro i x hn;have hi:=nth_len hn;have hw:=wj hi hlen;have hx:=(szl_parts hs (nth_in hn)).1;have hk:=Nat.le_trans (skids_sz x) hx;have h1:=ih x.kids (by have:=List.sizeOf_lt_of_mem (nth_in hn);have:=XSchema.kids_lt1 x;omega) hk;have h2:=blSchema_take l (i+1);have h3:=cnSchema_sz (l:=l);rw[cnSchema_eq]at h3;rw[take_succ_nth _ _ _ hn,blSchema_snoc]at h2;have h4:IntKind.i64.wrap (((l.length+blSchema (l.take i):Nat):Int)+(cnSchema x.kids:Int))=((l.length+(blSchema (l.take i)+cnSchema x.kids):Nat):Int):=by rw[wrap_i64 (by simp only[mg]at hs;omega)];omega
   rw[take_succ_nth _ _ _ hn,blSchema_snoc];simp only[go_sem,lB_,l255_0,hi,nth_map,hn,po_has19];simp only[go_sem,eSchema_eq x,h1,h4,hw]) (by
   rw[List.take_length,cnSchema_eq];simp only[go_sem,lB_,l255_0,Nat.lt_irrefl]) l.length 0 (by omega)
  rw[n0,List.take_zero,blSchema,Nat.add_zero]at hl;rw[hl];simp only[go_sem]
theorem q255{l:List XSchema}(hs:szl eSchema l≤mg):G 255 [dSchemas l]=some (0,[.int .i64 (cnSchema l)]):=q255_n _ l (Nat.lt_succ_self _) hs
def LftSchema(l:List XSchema)(x r:Int):Prop:=((cnSchema l:Int)≤x→r=x - cnSchema l)∧(x < (cnSchema l:Int)→r < 0)∧-1048576≤r
theorem q201_n(n:Nat):∀(l:List XSchema) (x:Int),SizeOf.sizeOf l < n→szl eSchema l≤mg→0≤x→x≤1048576→∃r,G 201 [dSchemas l,.int .i64 x]=some (0,[.int .i64 r])∧LftSchema l x r:=by
 induction n with
 |zero=>intro l x h;omega
 |succ n ih=>
  intro l x hz hs h0 hx;have hlen:l.length≤mg:=by simp only[szl]at hs;omega
  have hw0:IntKind.i64.wrap (x - (l.length:Int))=x - l.length:=wrap_i64 (by simp only[mg]at hlen;omega);have loop:∀m i (y:Int),i+m=l.length→-1048576≤y→y≤1048576→∃(r z:Int),gloop (lB G l201_0) (0,[dSchemas l,.int .i64 y,.int .i64 (i:Int)])=some (0,[dSchemas l,.int .i64 r,.int .i64 z,.bool false])∧(0≤y→(blSchema (l.drop i):Int)≤y→r=y - blSchema (l.drop i))∧(y < 0∨y < (blSchema (l.drop i):Int)→r < 0)∧-1048576≤r:=by
   intro m
   induction m with
   |zero=>
    intro i y hi h1 h2;obtain rfl:i=l.length:=by omega
    refine⟨y,l.length,gloop_out (by simp only[go_sem,lB_,l201_0,Nat.lt_irrefl]),?_⟩;rw[List.drop_length];simp only[blSchema];omega
   |succ m ihm=>
    intro i y hi h1 h2;have hlt:i < l.length:=by omega
    have a1:=nth_lt (l:=l) (i:=i) hlt;have hd:=drop_nth l i _ a1;generalize l[i]'hlt=e at a1 hd;by_cases hy:0≤y
    ·have hmem:=nth_in a1;have hke:=Nat.le_trans (skids_sz e) (szl_parts hs hmem).1;obtain⟨r1,g1,g2,g3,g4⟩:=ih e.kids y (by have:=List.sizeOf_lt_of_mem hmem;have:=XSchema.kids_lt1 e;omega) hke hy h2;have hr1:r1≤1048576:=by
      by_cases hc:(cnSchema e.kids:Int)≤y
      ·have:=g2 hc;omega
      ·have:=g3 (by omega);omega
     obtain⟨r,z,k1,k2,k3,k4⟩:=ihm (i+1) r1 (by omega) g4 hr1;have hw:=wj hlt hlen;refine⟨r,z,?_,?_⟩
     ·rw[← k1];refine gloop_go ?_;simp only[go_sem,lB_,l201_0,hlt,nth_map,a1,hy];simp only[go_sem,eSchema_eq e,g1,hw]
     ·rw[hd,blSchema];refine⟨fun _ h=>?_,fun h=>?_,k4⟩
      ·have:=g2 (by omega);have:=k2 (by omega) (by omega);omega
      ·by_cases hc:(cnSchema e.kids:Int)≤y
       ·have:=g2 hc;exact k3 (by omega)
       ·have:=g3 (by omega);exact k3 (.inl this)
    ·refine⟨y,i,gloop_out (by simp only[go_sem,lB_,l201_0,hlt,hy]),fun h=>absurd h hy,fun _=>by omega,h1⟩
  obtain⟨r,z,k1,k2,k3,k4⟩:=loop l.length 0 (x - l.length) (by omega) (by simp only[mg]at hlen;omega) (by omega);rw[n0,List.drop_zero]at *;refine⟨r,gOf s201 rfl ?_,?_⟩
  ·simp only[go_sem,t201,hw0,k1]
  ·unfold LftSchema;rw[cnSchema_eq];refine⟨fun h=>?_,fun h=>?_,k4⟩
   ·have:=k2 (by omega) (by omega);omega
   ·exact k3 (by omega)
theorem q201{l:List XSchema}{x:Int}(hs:szl eSchema l≤mg)(h0:0≤x)(hx:x≤1048576):∃r,G 201 [dSchemas l,.int .i64 x]=some (0,[.int .i64 r])∧LftSchema l x r:=q201_n _ l x (Nat.lt_succ_self _) hs h0 hx
theorem XNode.kids_lt(e:XNode)(es:List XNode):SizeOf.sizeOf e.kids < SizeOf.sizeOf (e::es):=by
 cases e;simp only[List.cons.sizeOf_spec,XNode.mk.sizeOf_spec];omega
theorem XNode.kids_lt1(e:XNode):SizeOf.sizeOf e.kids < SizeOf.sizeOf e:=by
 cases e;simp only[XNode.mk.sizeOf_spec];omega
theorem eNode_len(e:XNode):(eNode e).length=3:=by rw[eNode_eq];rfl
theorem po_has3(e:XNode)(k:Nat)(fl:Bool):evPO (.has 3) [.list k fl [eNode e]]=some (.bool false):=by
 rw[po_has,eNode_len,if_pos (Nat.le_refl 3)]
theorem nkids_sz(e:XNode):szl eNode e.kids≤szC (eNode e):=by rw[szC_node];omega
def cnNode:List XNode→Nat
 |[]=>0
 |e::es=>1+cnNode e.kids+cnNode es
termination_by es=>SizeOf.sizeOf es
decreasing_by
 ·exact XNode.kids_lt e es
 ·simp only[List.cons.sizeOf_spec];omega
def blNode:List XNode→Nat
 |[]=>0
 |e::es=>cnNode e.kids+blNode es
theorem cnNode_eq:∀(l:List XNode),cnNode l=l.length+blNode l
 |[]=>by rw[cnNode];rfl
 |e::l=>by rw[cnNode,cnNode_eq l,blNode,List.length_cons];omega
theorem blNode_snoc(e:XNode):∀(l:List XNode),blNode (l++[e])=blNode l+cnNode e.kids
 |[]=>by simp[blNode]
 |x::l=>by rw[List.cons_append,blNode,blNode,blNode_snoc e l];omega
theorem blNode_take(l:List XNode)(i:Nat):blNode l=blNode (l.take i)+blNode (l.drop i):=by
 have app:∀(a b:List XNode),blNode (a++b)=blNode a+blNode b:=by
  intro a
  induction a with
  |nil=>intro b;simp[blNode]
  |cons x a ih=>intro b;rw[List.cons_append,blNode,blNode,ih b];omega
 rw[← app,List.take_append_drop]
theorem cnNode_le(n:Nat):∀(l:List XNode),SizeOf.sizeOf l < n→cnNode l≤szl eNode l:=by
 induction n with
 |zero=>intro l h;omega
 |succ n ih=>
  intro l h;cases l with
  |nil=>rw[cnNode];omega
  |cons e l=>
   have h1:=ih l (by simp only[List.cons.sizeOf_spec]at h;omega);have h2:=ih e.kids (by have:=XNode.kids_lt e l;omega);rw[cnNode,szl_cons];have:=nkids_sz e;omega
theorem cnNode_sz{l:List XNode}:cnNode l≤szl eNode l:=cnNode_le _ l (Nat.lt_succ_self _)
theorem q317_n(n:Nat):∀l:List XNode,SizeOf.sizeOf l < n→szl eNode l≤mg→G 317 [dNodes l]=some (0,[.int .i64 (cnNode l)]):=by
 induction n with
 |zero=>intro l h;omega
 |succ n ih=>
  intro l hz hs;have hlen:l.length≤mg:=by simp only[szl]at hs;omega
  refine gOf s317 rfl ?_;simp only[go_sem,t317];have hl:=gl_gather (b:=lB G l317_0) l (fun i (m:Nat)=>(0,[.int .i64 (m:Int),dNodes l,.int .i64 l.length,.int .i64 (i:Int)])) (fun i=>l.length+blNode (l.take i)) (0,[.int .i64 (cnNode l),dNodes l,.int .i64 l.length,.int .i64 l.length,.bool false]) (by
   intro i x hn;have hi:=nth_len hn;have hw:=wj hi hlen;have hx:=(szl_parts hs (nth_in hn)).1;have hk:=Nat.le_trans (nkids_sz x) hx;have h1:=ih x.kids (by have:=List.sizeOf_lt_of_mem (nth_in hn);have:=XNode.kids_lt1 x;omega) hk;have h2:=blNode_take l (i+1);have h3:=cnNode_sz (l:=l);rw[cnNode_eq]at h3;rw[take_succ_nth _ _ _ hn,blNode_snoc]at h2;have h4:IntKind.i64.wrap (((l.length+blNode (l.take i):Nat):Int)+(cnNode x.kids:Int))=((l.length+(blNode (l.take i)+cnNode x.kids):Nat):Int):=by rw[wrap_i64 (by simp only[mg]at hs;omega)];omega
   rw[take_succ_nth _ _ _ hn,blNode_snoc];simp only[go_sem,lB_,l317_0,hi,nth_map,hn,po_has3];simp only[go_sem,eNode_eq x,h1,h4,hw]) (by
   rw[List.take_length,cnNode_eq];simp only[go_sem,lB_,l317_0,Nat.lt_irrefl]) l.length 0 (by omega)
  rw[n0,List.take_zero,blNode,Nat.add_zero]at hl;rw[hl];simp only[go_sem]
theorem q317{l:List XNode}(hs:szl eNode l≤mg):G 317 [dNodes l]=some (0,[.int .i64 (cnNode l)]):=q317_n _ l (Nat.lt_succ_self _) hs
def LftNode(l:List XNode)(x r:Int):Prop:=((cnNode l:Int)≤x→r=x - cnNode l)∧(x < (cnNode l:Int)→r < 0)∧-1048576≤r
theorem q242_n(n:Nat):∀(l:List XNode) (x:Int),SizeOf.sizeOf l < n→szl eNode l≤mg→0≤x→x≤1048576→∃r,G 242 [dNodes l,.int .i64 x]=some (0,[.int .i64 r])∧LftNode l x r:=by
 induction n with
 |zero=>intro l x h;omega
 |succ n ih=>
  intro l x hz hs h0 hx;have hlen:l.length≤mg:=by simp only[szl]at hs;omega
  have hw0:IntKind.i64.wrap (x - (l.length:Int))=x - l.length:=wrap_i64 (by simp only[mg]at hlen;omega);have loop:∀m i (y:Int),i+m=l.length→-1048576≤y→y≤1048576→∃(r z:Int),gloop (lB G l242_0) (0,[dNodes l,.int .i64 y,.int .i64 (i:Int)])=some (0,[dNodes l,.int .i64 r,.int .i64 z,.bool false])∧(0≤y→(blNode (l.drop i):Int)≤y→r=y - blNode (l.drop i))∧(y < 0∨y < (blNode (l.drop i):Int)→r < 0)∧-1048576≤r:=by
   intro m
   induction m with
   |zero=>
    intro i y hi h1 h2;obtain rfl:i=l.length:=by omega
    refine⟨y,l.length,gloop_out (by simp only[go_sem,lB_,l242_0,Nat.lt_irrefl]),?_⟩;rw[List.drop_length];simp only[blNode];omega
   |succ m ihm=>
    intro i y hi h1 h2;have hlt:i < l.length:=by omega
    have a1:=nth_lt (l:=l) (i:=i) hlt;have hd:=drop_nth l i _ a1;generalize l[i]'hlt=e at a1 hd;by_cases hy:0≤y
    ·have hmem:=nth_in a1;have hke:=Nat.le_trans (nkids_sz e) (szl_parts hs hmem).1;obtain⟨r1,g1,g2,g3,g4⟩:=ih e.kids y (by have:=List.sizeOf_lt_of_mem hmem;have:=XNode.kids_lt1 e;omega) hke hy h2;have hr1:r1≤1048576:=by
      by_cases hc:(cnNode e.kids:Int)≤y
      ·have:=g2 hc;omega
      ·have:=g3 (by omega);omega
     obtain⟨r,z,k1,k2,k3,k4⟩:=ihm (i+1) r1 (by omega) g4 hr1;have hw:=wj hlt hlen;refine⟨r,z,?_,?_⟩
     ·rw[← k1];refine gloop_go ?_;simp only[go_sem,lB_,l242_0,hlt,nth_map,a1,hy];simp only[go_sem,eNode_eq e,g1,hw]
     ·rw[hd,blNode];refine⟨fun _ h=>?_,fun h=>?_,k4⟩
      ·have:=g2 (by omega);have:=k2 (by omega) (by omega);omega
      ·by_cases hc:(cnNode e.kids:Int)≤y
       ·have:=g2 hc;exact k3 (by omega)
       ·have:=g3 (by omega);exact k3 (.inl this)
    ·refine⟨y,i,gloop_out (by simp only[go_sem,lB_,l242_0,hlt,hy]),fun h=>absurd h hy,fun _=>by omega,h1⟩
  obtain⟨r,z,k1,k2,k3,k4⟩:=loop l.length 0 (x - l.length) (by omega) (by simp only[mg]at hlen;omega) (by omega);rw[n0,List.drop_zero]at *;refine⟨r,gOf s242 rfl ?_,?_⟩
  ·simp only[go_sem,t242,hw0,k1]
  ·unfold LftNode;rw[cnNode_eq];refine⟨fun h=>?_,fun h=>?_,k4⟩
   ·have:=k2 (by omega) (by omega);omega
   ·exact k3 (by omega)
theorem q242{l:List XNode}{x:Int}(hs:szl eNode l≤mg)(h0:0≤x)(hx:x≤1048576):∃r,G 242 [dNodes l,.int .i64 x]=some (0,[.int .i64 r])∧LftNode l x r:=q242_n _ l x (Nat.lt_succ_self _) hs h0 hx
end
section
set_option maxRecDepth 100000
set_option maxHeartbeats 4000000
def dpS:List XSchema→Nat
 |[]=>0
 |e::es=>max (1+dpS e.kids) (dpS es)
termination_by es=>SizeOf.sizeOf es
decreasing_by
 ·exact XSchema.kids_lt e es
 ·simp only[List.cons.sizeOf_spec];omega
theorem dpS_snoc(e:XSchema):∀(l:List XSchema),dpS (l++[e])=max (dpS l) (1+dpS e.kids)
 |[]=>by simp[dpS]
 |x::l=>by rw[List.cons_append,dpS,dpS_snoc e l,dpS,Nat.max_assoc]
theorem dpS_n(n:Nat):∀(l:List XSchema),SizeOf.sizeOf l < n→dpS l≤szl eSchema l:=by
 induction n with
 |zero=>intro l h;omega
 |succ n ih=>
  intro l h;cases l with
  |nil=>rw[dpS];omega
  |cons e l=>
   have h1:=ih l (by simp only[List.cons.sizeOf_spec]at h;omega);have h2:=ih e.kids (by have:=XSchema.kids_lt e l;omega);rw[dpS,szl_cons];have:=skids_sz e;omega
theorem dpS_le{l:List XSchema}:dpS l≤szl eSchema l:=dpS_n _ l (Nat.lt_succ_self _)
theorem q256_n(n:Nat):∀l:List XSchema,SizeOf.sizeOf l < n→szl eSchema l≤mg→G 256 [dSchemas l]=some (0,[.int .i64 (dpS l)]):=by
 induction n with
 |zero=>intro l h;omega
 |succ n ih=>
  intro l hz hs;have hlen:l.length≤mg:=by simp only[szl]at hs;omega
  refine gOf s256 rfl ?_;simp only[go_sem,t256];have hl:=gl_gather (b:=lB G l256_0) l (fun i (m:Nat)=>(0,[.int .i64 (m:Int),dSchemas l,.int .i64 l.length,.int .i64 (i:Int)])) (fun i=>dpS (l.take i)) (0,[.int .i64 (dpS l),dSchemas l,.int .i64 l.length,.int .i64 l.length,.bool false]) (by
   intro i x hn;have hi:=nth_len hn;have hw:=wj hi hlen;have hx:=(szl_parts hs (nth_in hn)).1;have hk:=Nat.le_trans (skids_sz x) hx;have h1:=ih x.kids (by have:=List.sizeOf_lt_of_mem (nth_in hn);have:=XSchema.kids_lt1 x;omega) hk;have h2:=dpS_le (l:=x.kids);have h4:IntKind.i64.wrap (1+(dpS x.kids:Int))=((1+dpS x.kids:Nat):Int):=by rw[wrap_i64 (by simp only[mg]at hk;omega)];omega
   rw[take_succ_nth _ _ _ hn,dpS_snoc];simp only[go_sem,lB_,l256_0,hi,nth_map,hn,po_has19];simp only[go_sem,eSchema_eq x,h1,h4,mx,hw]) (by
   rw[List.take_length];simp only[go_sem,lB_,l256_0,Nat.lt_irrefl]) l.length 0 (by omega)
  have d0':((dpS []:Nat):Int)=0:=by simp[dpS]
  rw[n0,List.take_zero,d0']at hl;rw[hl];simp only[go_sem]
theorem q256{l:List XSchema}(hs:szl eSchema l≤mg):G 256 [dSchemas l]=some (0,[.int .i64 (dpS l)]):=q256_n _ l (Nat.lt_succ_self _) hs
def nilS:XSchema:=⟨0,⟨#[]⟩,⟨0,[],[],⟨#[]⟩,⟨#[]⟩⟩,[],[],⟨#[]⟩,false,false,false,false,0,0,[],[],[]⟩
def lfind(l:List XSchema)(nm:ByteArray):Option Nat:=fnd (fun e=>decide (e.name=nm) && decide (e.kind=3)) l 0
theorem q314{l:List XSchema}{nm:ByteArray}(hlen:l.length≤mg):G 314 [dSchemas l,.str nm]=some (match lfind l nm with
  |some j=>match nth l j with
   |some e=>(0,eSchema e++[.bool true])
   |none=>(1,eSchema nilS++[.bool false])
  |none=>(1,eSchema nilS++[.bool false])):=by
 refine gOf s314 rfl ?_;simp only[go_sem,t314];have hl:=gl_find0 (b:=lB G l314_0) l (fun i=>(0,[.str nm,dSchemas l,.int .i64 l.length,.int .i64 (i:Int),.int .i64 0,.str ⟨#[]⟩,.int .i64 0,.str ⟨#[]⟩,.str ⟨#[]⟩,.str ⟨#[]⟩,.bool false,.bool false,.bool false,.bool false,.int .i64 0,.int .i64 0])) (fun e=>decide (e.name=nm) && decide (e.kind=3))
  (1,[.str nm,dSchemas l,.int .i64 l.length,.int .i64 l.length,.bool false,.int .i64 0,.str ⟨#[]⟩,.int .i64 0,.str ⟨#[]⟩,.str ⟨#[]⟩,.str ⟨#[]⟩,.bool false,.bool false,.bool false,.bool false,.int .i64 0,.int .i64 0]) (fun i e=>(0,.bool true::eSchema e)) (by
  intro i e hn;have hi:=nth_len hn;have hw:=wj hi hlen;simp only[go_sem,lB_,l314_0,hi,nth_map,hn,po_has19];by_cases h1:e.name=nm
  ·by_cases h2:e.kind=3
   ·simp only[go_sem,eSchema_eq e,h1,h2]
   ·simp only[go_sem,eSchema_eq e,h1,h2,hw]
  ·simp only[go_sem,eSchema_eq e,h1,hw]) (by simp only[go_sem,lB_,l314_0,Nat.lt_irrefl])
 rw[n0]at hl;rw[hl];unfold lfind;cases hf:fnd (fun e=>decide (e.name=nm) && decide (e.kind=3)) l 0 with
 |none=>simp only[go_sem,eSchema_eq,nilS];rfl
 |some j=>
  obtain⟨e,h1,h2⟩:=fnd_nth0 hf;simp only[go_sem,h1,eSchema_eq]
end
section
set_option maxRecDepth 100000
set_option maxHeartbeats 4000000
noncomputable def unr{σ ρ:Type}(b:σ→Option (Sg σ ρ)):Option (Sg σ ρ)→Option ρ
 |some (.go s)=>gloop b s
 |some (.out r)=>some r
 |none=>none
theorem gloop_unr{σ ρ:Type}(b:σ→Option (Sg σ ρ))(s:σ):gloop b s=unr b (b s):=by
 cases h:b s with
 |none=>
  unfold gloop;rw[dif_neg]
  ·rfl
  ·rintro⟨r,hr⟩
   cases hr with
   |out g=>rw[h]at g;cases g
   |go g _=>rw[h]at g;cases g
 |some x=>
  cases x with
  |go s'=>rw[gloop_go h];rfl
  |out r=>rw[gloop_out h];rfl
theorem unr_go{σ ρ:Type}(b:σ→Option (Sg σ ρ))(s:σ):unr b (some (.go s))=gloop b s:=(rfl)
theorem unr_out{σ ρ:Type}(b:σ→Option (Sg σ ρ))(r:ρ):unr b (some (.out r))=some r:=(rfl)
theorem fnd_map{α β:Type}(f:α→β)(p:β→Bool):∀(l:List α) (k:Nat),fnd p (l.map f) k=fnd (fun e=>p (f e)) l k
 |[],_=>rfl
 |e::l,k=>by simp only[List.map_cons,fnd,fnd_map f p l (k+1)]
theorem ix_sfind(l:List XSchema)(nm:ByteArray):ix (l.map XSchema.name) nm=sfind l nm:=by
 rw[ix,fnd_map,sfind]
 congr 1
 funext e
 exact decide_eq_decide.2 eq_comm
theorem eld19{d:List XSchema}{j:Nat}{e:XSchema}(h:nth d j=some e):evPO (.eld 19 0 19 false) [dSchemas d,.int .i64 (j:Int)]=some (.list 0 false [eSchema e]):=by
 have h1:nth (d.map eSchema) j=some (eSchema e):=by rw[nth_map,h];rfl
 simp only[evPO,Int.toNat_natCast,h1];rw[eSchema_len];simp
theorem eld18{d:List XSchema}{j:Nat}{e:XSchema}(h:nth d j=some e):evPO (.eld 19 18 1 false) [dSchemas d,.int .i64 (j:Int)]=some (.list 0 false [eSchema e]):=by
 have h1:nth (d.map eSchema) j=some (eSchema e):=by rw[nth_map,h];rfl
 simp only[evPO,Int.toNat_natCast,h1];rw[eSchema_len];simp
theorem q97_1{l:List XSchema}{nm:ByteArray}(hs:szl eSchema l≤mg):G 97 [dSchemas l,dStrs [nm]]=some (match sfind (dk l) nm with
  |some j=>match nth (dk l) j with
   |some e=>(1,eSchema e++[.bool true])
   |none=>(0,eSchema nilS++[.bool false])
  |none=>(0,eSchema nilS++[.bool false])):=by
 have hd:=dk_le (es:=l);have hdl:(dk l).length≤mg:=by simp only[szl]at *;omega
 have h94:=q94 hs;have h95:=q95 (l:=dk l) hdl;have h96:=q96 (l:=(dk l).map XSchema.name) (v:=nm) (by rw[List.length_map];exact hdl);rw[ix_sfind]at h96;refine gOf s97 rfl ?_;simp only[go_sem,gloop_unr,lB_,l97_0,eStr,t97];cases hf:sfind (dk l) nm with
 |none=>
  rw[hf]at h96;have hp:evPO .pl [.int .i64 (-1)]=some (.bool false):=rfl;by_cases hq:dk l=[]
  ·have hk:kE (dk l)=0:=by rw[hq];rfl
   simp only[go_sem,unr_out,h94,hk,h95,h96,hp,ofI,eSchema_eq,nilS];rfl
  ·have hk:kE (dk l)=1:=kE_ne hq;simp only[go_sem,unr_out,h94,hk,h95,h96,hp,ofI,eSchema_eq,nilS];rfl
 |some j=>
  obtain⟨e,h1,h2⟩:=fnd_nth0 hf;rw[hf]at h96;have hp:evPO .pl [.int .i64 (j:Int)]=some (.bool false):=rfl;have hne:dk l≠[]:=by intro h;rw[h]at h1;cases h1
  have hj:=nth_len h1;have e1:=eld19 h1;have e2:=eld18 h1;have e3:=po_chk 19 false ((dk l).map eSchema) j (by rw[List.length_map];exact hj);have hj0:¬(j:Int) < 0:=by omega
  have hk:kE (dk l)=1:=kE_ne hne;have hw:IntKind.i64.wrap 1=1:=by decide
  have hc:decide ((1:Int) < 1)=false:=by decide
  simp only[go_sem,gloop_unr,unr_go,unr_out,lB_,eStr,h94,hk,h95,h96,hp,ofI,e1,e2,e3,hj0,h1,hw,eSchema_eq]
end
section
set_option maxRecDepth 100000
set_option maxHeartbeats 4000000
def nfind(l:List XNode)(nm:ByteArray):Option Nat:=fnd (fun e=>decide (e.name=nm)) l 0
theorem q243{l:List XNode}{nm:ByteArray}(hlen:l.length≤mg):G 243 [dNodes l,.str nm]=some (0,[.int .i64 (ofI (nfind l nm))]):=by
 refine gOf s243 rfl ?_;simp only[go_sem,t243];have hl:=gl_find0 (b:=lB G l243_0) l (fun i=>(0,[dNodes l,.str nm,.int .i64 (i:Int)])) (fun e=>decide (e.name=nm)) (1,[dNodes l,.str nm,.int .i64 l.length,.bool false]) (fun i e=>(0,[.int .i64 (i:Int)])) (by
  intro i e hn;have hi:=nth_len hn;have hw:=wj hi hlen;simp only[go_sem,lB_,l243_0,hi,nth_map,hn,eNode_eq];cases hc:decide (e.name=nm)<;>simp only[go_sem,hw]) (by simp only[go_sem,lB_,l243_0,Nat.lt_irrefl])
 rw[n0]at hl;rw[hl];unfold nfind;cases hf:fnd (fun e=>decide (e.name=nm)) l 0 with
 |none=>simp only[go_sem,ofI]
 |some j=>
  obtain⟨e,h1,h2⟩:=fnd_nth0 hf;simp only[go_sem,h1,ofI]
theorem nmI_fnd(nm:ByteArray):∀(l:List XNode) (k:Nat),nmI nm (l.map eNode) (k:Int)=some (ofI (fnd (fun e=>decide (e.name=nm)) l k))
 |[],k=>rfl
 |e::l,k=>by
  have h:=nmI_fnd nm l (k+1);simp only[List.map_cons,eNode_eq e,nmI,fnd];by_cases hc:e.name=nm
  ·simp[hc,ofI]
  ·have h':nmI nm (l.map eNode) ((k:Int)+1)=some (ofI (fnd (fun e=>decide (e.name=nm)) l (k+1))):=h;simp[hc,h']
theorem q9003(l:List XNode)(nm:ByteArray):G 9003 [dNodes l,.str nm]=some (0,[.int .i64 (ofI (nfind l nm))]):=
 GF_lim (i:=9003) (sg:=⟨9003,[.val false [.d],.val false [.d]],[([.val false [.d]],[])]⟩) (v:=([.val false [.d]],[])) (j:=0) (r:=([.val false [.d (.int .i64 (ofI (nfind l nm)))]],[])) (ws:=[dNodes l,.str nm]) rfl rfl ((lim_x T rfl [.val false [.d (dNodes l)],.val false [.d (.str nm)]]).trans (by
  have h:=nmI_fnd nm l 0;have h':nmI nm (l.map eNode) 0=some (ofI (nfind l nm)):=h;simp only[XT,dNodes,h'];rfl)) rfl rfl
def isRow(k:Int):Bool:=decide (k=2) ||decide (k=4)
theorem q247(k:Int):G 247 [.int .i64 k]=some (0,[.bool (isRow k)]):=by
 refine gOf s247 rfl ?_;simp only[go_sem,t247,isRow];cases h:decide (k=2)<;>simp only[go_sem]
def nval(l:List XNode)(nm:ByteArray):Option ByteArray:=match nfind l nm with
 |some j=>(nth l j).map XNode.value
 |none=>none
def keyA(l:List XNode):List ByteArray→List ByteArray→List ByteArray×Bool
 |t,[]=>(t,true)
 |t,k::ks=>match nval l k with
  |none=>(t,false)
  |some v=>keyA l (t++[v]) ks
def kst{ρ:Type}(l:List XNode)(g:Nat→List ByteArray→ρ)(i:Nat)(t:List ByteArray)(k:ByteArray):Sg (List ByteArray) ρ:=match nval l k with
 |none=>.out (g i t)
 |some v=>.go (t++[v])
def keyOf(n:XSchema)(x:XNode):List ByteArray×Bool:=
 if n.kind=2 then (if (keyA x.kids [] n.keys).2=true then ((keyA x.kids [] n.keys).1,true) else ([],false)) else ([x.value],true)
theorem nval_none{l:List XNode}{k:ByteArray}:nfind l k=none→nval l k=none:=fun h=>by rw[nval,h]
theorem nval_some{l:List XNode}{k:ByteArray}{j:Nat}{e:XNode}(h:nfind l k=some j)(he:nth l j=some e):nval l k=some e.value:=by rw[nval,h];simp only[he,Option.map_some]
theorem fold_key{ρ:Type}(l:List XNode)(g:List ByteArray→ρ):∀(ks:List ByteArray) (i:Nat) (t:List ByteArray),
  foldE (kst l (fun _ t=>g t)) i t ks=if (keyA l t ks).2=true then .go (keyA l t ks).1 else .out (g (keyA l t ks).1)
 |[],_,_=>rfl
 |k::ks,i,t=>by
  cases h:nval l k with
  |none=>simp only[foldE,kst,keyA,h];rfl
  |some v=>simp only[foldE,kst,keyA,h];exact fold_key l g ks (i+1) (t++[v])
theorem app1{t:List ByteArray}{v:ByteArray}(h:t.length < mg):evPO (.app 1 16) [dStrs t,.list 1 true [[.str v]]]=some (dStrs (t++[v])):=by
 have h:=po_appN 1 16 true (t.map eStr) [[.str v]] (by decide) (by simp only[mg,List.length_map,List.length_cons,List.length_nil]at *;omega);rw[h];simp[eStr]
theorem dStrs_nil:dStrs []=.list 1 true []:=(rfl)
theorem mkl1(v:ByteArray):evPO (.mkl 1 true) [.str v]=some (.list 1 true [[.str v]]):=by simp[evPO,chunk,plains,D.plain]
theorem q244{n:XSchema}{x:XNode}(hk:n.keys.length≤mg)(hx:x.kids.length≤mg):G 244 (eSchema n++eNode x)=some (0,[dStrs (keyOf n x).1,.bool (keyOf n x).2]):=by
 refine gOf s244 (by rw[eSchema_eq,eNode_eq];rfl) ?_;simp only[go_sem,t244,eSchema_eq,eNode_eq];have hl:=gl_fold (b:=lB G l244_0) n.keys (fun i (t:List ByteArray)=>(0,.int .i64 (i:Int)::(eSchema n++eNode x++[dStrs t]))) (kst x.kids (fun _ t=>(0,[.bool false,dStrs t])))
  (fun t=>(1,.int .i64 n.keys.length::.bool false::(eSchema n++eNode x++[dStrs t]))) (fun i t=>t.length=i) [] rfl (by
  intro i k t hn hI;have hi:=nth_len hn;have hw:=wj hi hk;have h1:=q243 (l:=x.kids) (nm:=k) hx;have hap:∀v,evPO (.app 1 16) [dStrs t,.list 1 true [[.str v]]]=some (dStrs (t++[v])):=fun v=>app1 (by omega);cases hf:nfind x.kids k with
  |none=>
   rw[hf]at h1;simp only[go_sem,lB_,l244_0,hi,nth_map,hn,eSchema_eq,eNode_eq,eStr,h1,ofI,kst,nval_none hf,sgM];intro t' ht;cases ht
  |some j=>
   obtain⟨e,e1,e2⟩:=fnd_nth0 hf;rw[hf]at h1;have hj:¬(j:Int) < 0:=by omega
   simp only[go_sem,lB_,l244_0,hi,nth_map,hn,eSchema_eq n,eNode_eq x,eStr,h1,ofI,hj,kst,nval_some hf e1,sgM];simp only[go_sem,e1,eNode_eq e,mkl1,hap,hw];simp[hI]) (by
  intro t hI;simp only[go_sem,lB_,l244_0,Nat.lt_irrefl,eSchema_eq,eNode_eq])
 rw[n0,fold_key]at hl;simp only[eSchema_eq,eNode_eq,List.cons_append,List.nil_append,dStrs_nil]at hl;rw[keyOf];by_cases hkd:n.kind=2
 ·have hd:decide (n.kind=2)=true:=by simp[hkd]
  simp only[go_sem,hd];rw[hl];clear hl;cases hr:(keyA x.kids [] n.keys).2
  ·simp only[go_sem,sgF,hkd];rfl
  ·simp only[go_sem,sgF,hkd]
 ·have hd:decide (n.kind=2)=false:=by simp[hkd]
  simp only[go_sem,mkl1,hkd];rfl
theorem q320{n:XSchema}{x:XNode}(hk:n.keys.length≤mg)(hx:x.kids.length≤mg):G 320 (eSchema n++eNode x)=some (0,[dStrs (keyOf n x).1,.bool (keyOf n x).2]):=by
 refine gOf s320 (by rw[eSchema_eq,eNode_eq];rfl) ?_;simp only[go_sem,t320,eSchema_eq,eNode_eq];have hl:=gl_fold (b:=lB G l320_0) n.keys (fun i (t:List ByteArray)=>(0,[dStrs n.keys,.int .i64 n.keys.length,.int .i64 (i:Int),.str x.name,.str x.value,dNodes x.kids,dStrs t])) (kst x.kids (fun _ t=>(0,[.bool false,dStrs t,dStrs []])))
  (fun t=>(1,[dStrs n.keys,.int .i64 n.keys.length,.int .i64 n.keys.length,.bool false,.str x.name,.str x.value,dNodes x.kids,dStrs t])) (fun i t=>t.length=i) [] rfl (by
  intro i k t hn hI;have hi:=nth_len hn;have hw:=wj hi hk;have h1:=q9003 x.kids k;have hmk:evPO (.mkl 1 true) []=some (dStrs []):=by simp[evPO,chunk]
  have hap:∀v,evPO (.app 1 16) [dStrs t,.list 1 true [[.str v]]]=some (dStrs (t++[v])):=fun v=>app1 (by omega);cases hf:nfind x.kids k with
  |none=>
   rw[hf]at h1;simp only[go_sem,lB_,l320_0,hi,nth_map,hn,eStr,h1,ofI,kst,nval_none hf,sgM,hmk];intro t' ht;cases ht
  |some j=>
   obtain⟨e,e1,e2⟩:=fnd_nth0 hf;rw[hf]at h1;have hj:¬(j:Int) < 0:=by omega
   simp only[go_sem,lB_,l320_0,hi,nth_map,hn,eStr,h1,ofI,hj,kst,nval_some hf e1,sgM];simp only[go_sem,e1,eNode_eq e,mkl1,hap,hw];simp[hI]) (by
  intro t hI;simp only[go_sem,lB_,l320_0,Nat.lt_irrefl])
 rw[n0,fold_key (g:=fun t=>(0,[D.bool false,dStrs t,dStrs []]))]at hl;simp only[dStrs_nil]at hl;rw[keyOf];by_cases hkd:n.kind=2
 ·have hd:decide (n.kind=2)=true:=by simp[hkd]
  simp only[go_sem,hd];rw[hl];clear hl;cases hr:(keyA x.kids [] n.keys).2
  ·simp only[go_sem,sgF,hkd];rfl
  ·simp only[go_sem,sgF,hkd]
 ·have hd:decide (n.kind=2)=false:=by simp[hkd]
  simp only[go_sem,mkl1,hkd];rfl
end
section
set_option maxRecDepth 100000
set_option maxHeartbeats 4000000
theorem fi_shift{β:Type}(f:Nat→Option β):∀m i,firstI f (i+1) m=firstI (fun j=>f (j+1)) i m
 |0,_=>rfl
 |m+1,i=>by
  simp only[firstI,fi_shift f m (i+1)]
theorem fi_map{α β:Type}(f:Nat→Option α)(g:α→β):∀m i,firstI (fun j=>(f j).map g) i m=(firstI f i m).map g
 |0,_=>rfl
 |m+1,i=>by
  simp only[firstI];cases h:f i with
  |none=>simp only[Option.map_none,fi_map f g m (i+1)]
  |some r=>rfl
def pk{α β:Type}(c:α→α→Option β)(a b:List α)(i:Nat):Option β:=match nth a i,nth b i with
 |some x,some y=>c x y
 |_,_=>none
def lexP{α β:Type}(c:α→α→Option β):List α→List α→Option β
 |x::a,y::b=>match c x y with
  |some r=>some r
  |none=>lexP c a b
 |_,_=>none
theorem fi_lex{α β:Type}(c:α→α→Option β):∀(a b:List α),firstI (pk c a b) 0 (min a.length b.length)=lexP c a b
 |[],b=>by simp only[List.length_nil,Nat.zero_min,firstI,lexP]
 |x::a,[]=>by simp only[List.length_nil,Nat.min_zero,firstI,lexP]
 |x::a,y::b=>by
  have h:(min (x::a).length (y::b).length)=min a.length b.length+1:=by simp only[List.length_cons];omega
  rw[h];have h2:(fun j=>pk c (x::a) (y::b) (j+1))=pk c a b:=rfl;have h3:pk c (x::a) (y::b) 0=c x y:=rfl;simp only[firstI,fi_shift,h2,h3,lexP,fi_lex c a b];cases c x y<;>rfl
def lsC(x y:ByteArray):Option Bool:=if decide (x=y)=true then none else some (sLess x y)
def lessL(a b:List ByteArray):Bool:=(lexP lsC a b).getD (decide (a.length < b.length))
theorem q248{a b:List ByteArray}(ha:a.length≤mg)(hb:b.length≤mg):G 248 [dStrs a,dStrs b]=some (0,[.bool (lessL a b)]):=by
 refine gOf s248 rfl ?_;simp only[go_sem,t248];have hl:=gl_cnt (b:=lB G l248_0) (fun i=>(0,[dStrs a,dStrs b,.int .i64 (i:Int)])) (fun i=>(pk lsC a b i).map (fun r=>(0,[.bool r]))) (min a.length b.length) (1,[dStrs a,dStrs b,.int .i64 (min a.length b.length:Nat),.bool false]) (by
  intro i hi;have h1:i < a.length:=by omega
  have h2:i < b.length:=by omega
  have a1:=nth_lt (l:=a) h1;have a2:=nth_lt (l:=b) h2;generalize a[i]'h1=x at a1;generalize b[i]'h2=y at a2;have hw:=wj h1 ha;simp only[go_sem,lB_,l248_0,h1,h2,nth_map,a1,a2,eStr,pk,lsC];cases hc:decide (x=y)<;>simp only[go_sem,hw,cntR,nth_map,a1,a2,eStr]) (by
  by_cases h:a.length < b.length
  ·have e:min a.length b.length=a.length:=by omega
   rw[e];simp only[go_sem,lB_,l248_0,Nat.lt_irrefl]
  ·have e:min a.length b.length=b.length:=by omega
   rw[e];simp only[go_sem,lB_,l248_0];by_cases h':b.length < a.length<;>simp only[go_sem,h',Nat.lt_irrefl]) (min a.length b.length) 0 (by omega)
 rw[n0,fi_map,fi_lex]at hl;rw[hl,lessL];cases hx:lexP lsC a b<;>simp only[go_sem,Option.getD,Option.map]
theorem q323(a:ByteArray):G 323 [.str a]=some (0,[.bool false]):=by
 refine gOf s323 rfl ?_;simp only[go_sem,t323]
def cmpS(x y:ByteArray):Int:=if sLess x y=true then -1 else if decide (x=y)=true then 0 else 1
theorem q324(x y:ByteArray):G 324 [.str x,.str y]=some (0,[.int .i64 (cmpS x y)]):=by
 refine gOf s324 rfl ?_;simp only[go_sem,t324,q323,cmpS];cases h1:sLess x y<;>cases h2:decide (x=y)<;>simp only[go_sem,h1,h2]
def cmpA(a b:List ByteArray)(i:Nat):Option Int:=match nth a i with
 |none=>none
 |some x=>match nth b i with
  |none=>some 1
  |some y=>if cmpS x y=0 then none else some (cmpS x y)
def cmpL(a b:List ByteArray):Int:=match firstI (cmpA a b) 0 a.length with
 |some r=>r
 |none=>if a.length < b.length then -1 else 0
theorem nth_none{α:Type}:∀{l:List α} {i:Nat},l.length≤i→nth l i=none
 |[],_,_=>rfl
 |_::l,0,h=>by simp at h
 |_::l,i+1,h=>by
  have:=nth_none (l:=l) (i:=i) (by simpa using h)
  simpa [nth] using this
theorem q325{a b:List ByteArray}(ha:a.length≤mg)(hb:b.length≤mg):G 325 [dStrs a,dStrs b]=some (0,[.int .i64 (cmpL a b)]):=by
 refine gOf s325 rfl ?_;simp only[go_sem,t325];have hl:=gl_cnt (b:=lB G l325_0) (fun i=>(0,[dStrs a,dStrs b,dStrs a,.int .i64 a.length,.int .i64 (i:Int)])) (fun i=>(cmpA a b i).map (fun r=>(0,[.int .i64 r]))) a.length (1,[dStrs a,dStrs b,dStrs a,.int .i64 a.length,.int .i64 a.length,.bool false]) (by
  intro i h1;have a1:=nth_lt (l:=a) h1;generalize a[i]'h1=x at a1;have hw:=wj h1 ha;by_cases h2:i < b.length
  ·have a2:=nth_lt (l:=b) h2;generalize b[i]'h2=y at a2;have h3:decide ((b.length:Int)≤(i:Int))=false:=by simp only[decide_eq_false_iff_not];omega
   have h4:=q324 x y;simp only[go_sem,lB_,l325_0,h1,h3,nth_map,a1,a2,eStr,cmpA,h4];by_cases hc:cmpS x y=0
   ·have hd:decide (cmpS x y=0)=true:=by simp[hc]
    simp only[go_sem,hc,hw,cntR]
   ·have hd:decide (cmpS x y=0)=false:=by simp[hc]
    simp only[go_sem,hc,cntR]
  ·have a2:=nth_none (l:=b) (i:=i) (by omega);have h3:decide ((b.length:Int)≤(i:Int))=true:=by simp only[decide_eq_true_eq];omega
   simp only[go_sem,lB_,l325_0,h1,h3,nth_map,a1,a2,eStr,cmpA,cntR]) (by simp only[go_sem,lB_,l325_0,Nat.lt_irrefl]) a.length 0 (by omega)
 rw[n0,fi_map]at hl;rw[hl,cmpL];cases hx:firstI (cmpA a b) 0 a.length
 ·simp only[go_sem,Option.getD,Option.map];by_cases h:a.length < b.length<;>simp only[go_sem,h]
 ·simp only[go_sem,Option.getD,Option.map]
end
section
set_option maxRecDepth 100000
set_option maxHeartbeats 4000000
theorem bl_irr:∀l:List UInt8,Op.bytesLess l l=false
 |[]=>rfl
 |x::l=>by
  have h:¬x < x:=by simp
  simp[Op.bytesLess,bl_irr l,h]
theorem sl_irr(x:ByteArray):sLess x x=false:=bl_irr _
theorem cmpL_nil(b:List ByteArray):cmpL [] b=if 0 < b.length then -1 else 0:=(rfl)
theorem cmpL_nil'(x:ByteArray)(a:List ByteArray):cmpL (x::a) []=1:=(rfl)
theorem cmpL_cons(x y:ByteArray)(a b:List ByteArray):cmpL (x::a) (y::b)=if cmpS x y=0 then cmpL a b else cmpS x y:=by
 have h2:(fun j=>cmpA (x::a) (y::b) (j+1))=cmpA a b:=rfl;have h3:cmpA (x::a) (y::b) 0=if cmpS x y=0 then none else some (cmpS x y):=rfl
 rw[cmpL];simp only[List.length_cons,firstI,fi_shift,h2,h3];by_cases h:cmpS x y=0
 ·simp only[h,if_true,cmpL,Nat.add_lt_add_iff_right]
 ·simp only[h,if_false]
theorem less_cmp:∀a b:List ByteArray,lessL a b=decide (cmpL a b < 0)
 |[],[]=>rfl
 |[],y::b=>by
  rw[cmpL_nil];simp[lessL,lexP]
 |x::a,[]=>by
  rw[cmpL_nil'];simp[lessL,lexP]
 |x::a,y::b=>by
  rw[cmpL_cons];by_cases h:x=y
  ·subst h;have h1:cmpS x x=0:=by simp[cmpS,sl_irr]
   have h2:lsC x x=none:=by simp[lsC]
   rw[if_pos h1,← less_cmp a b];simp only[lessL,lexP,h2,List.length_cons,Nat.add_lt_add_iff_right]
  ·have h2:lsC x y=some (sLess x y):=by simp[lsC,h]
   have h3:lessL (x::a) (y::b)=sLess x y:=by simp only[lessL,lexP,h2,Option.getD]
   rw[h3];cases hs:sLess x y
   ·have h1:cmpS x y=1:=by simp[cmpS,hs,h]
    simp[h1]
   ·have h1:cmpS x y=-1:=by simp[cmpS,hs]
    simp[h1]
theorem keyA_len(l:List XNode):∀(ks t:List ByteArray),(keyA l t ks).1.length≤t.length+ks.length
 |[],t=>by simp[keyA]
 |k::ks,t=>by
  cases h:nval l k with
  |none=>simp only[keyA,h,List.length_cons];omega
  |some v=>
   have:=keyA_len l ks (t++[v]);simp only[keyA,h,List.length_cons,List.length_append,List.length_nil]at *;omega
theorem keyOf_len{n:XSchema}{x:XNode}(hk:n.keys.length≤mg):(keyOf n x).1.length≤mg:=by
 have h:=keyA_len x.kids n.keys [];simp only[List.length_nil,Nat.zero_add]at h;unfold keyOf;have hm:1≤mg:=by decide
 split
 ·split
  ·exact Nat.le_trans h hk
  ·simp
 ·simpa using hm
def ordOf(n:XSchema)(a b:XNode):Int:=if isRow n.kind=true then cmpL (keyOf n a).1 (keyOf n b).1 else 0
theorem q326{n:XSchema}{a b:XNode}(hk:n.keys.length≤mg)(ha:a.kids.length≤mg)(hb:b.kids.length≤mg):G 326 (eSchema n++eNode a++eNode b)=some (0,[.int .i64 (ordOf n a b)]):=by
 have h1:=q320 (n:=n) (x:=a) hk ha;have h2:=q320 (n:=n) (x:=b) hk hb;have h3:=q325 (a:=(keyOf n a).1) (b:=(keyOf n b).1) (keyOf_len hk) (keyOf_len hk);have hp:∀z:Int,evPO .pl [.int .i64 z]=some (.bool false):=fun z=>rfl;simp only[eSchema_eq,eNode_eq,List.cons_append,List.nil_append]at h1 h2;refine gOf s326 (by rw[eSchema_eq,eNode_eq,eNode_eq];rfl) ?_;simp only[go_sem,t326,eSchema_eq,eNode_eq,ordOf,isRow];obtain⟨v1,c1⟩:∃v,decide (n.kind=2)=v:=⟨_,rfl⟩
 obtain⟨v2,c2⟩:∃v,decide (n.kind=4)=v:=⟨_,rfl⟩
 cases v1<;>cases v2<;>simp only[go_sem,c1,c2,h1,h2,h3,hp]
theorem q249{d:List XSchema}{a b:XNode}{i k:Nat}{e:XSchema}(hd:d.length≤mg)(hk:e.keys.length≤mg)(ha:a.kids.length≤mg)(hb:b.kids.length≤mg)
  (hi:sfind d a.name=some i) (hj:sfind d b.name=some k) (he:nth d i=some e) :
  G 249 ([dSchemas d]++eNode a++eNode b)=some (0,[.bool (if decide (i=k) && isRow e.kind then lessL (keyOf e a).1 (keyOf e b).1 else decide (i < k))]):=by
 have f1:=q82 (l:=d) (nm:=a.name) hd;have f2:=q82 (l:=d) (nm:=b.name) hd;rw[hi]at f1;rw[hj]at f2;have h1:=q244 (n:=e) (x:=a) hk ha;have h2:=q244 (n:=e) (x:=b) hk hb;have h3:=q248 (a:=(keyOf e a).1) (b:=(keyOf e b).1) (keyOf_len hk) (keyOf_len hk);have h4:=q247 e.kind;have hp:evPO .pl [.bool (lessL (keyOf e a).1 (keyOf e b).1)]=some (.bool false):=rfl;simp only[eSchema_eq,eNode_eq,List.cons_append,List.nil_append]at h1 h2;refine gOf s249 (by rw[eNode_eq,eNode_eq];rfl) ?_;have ht:(some (eSchema e):Option (List D))=some (eSchema e):=rfl;simp only[go_sem,t249,eNode_eq,f1,f2,ofI];by_cases c:i=k
 ·subst c;cases c1:isRow e.kind<;>simp only[go_sem,nth_map,he,eSchema_eq e,h1,h2,h3,h4,c1,hp,Nat.lt_irrefl]
 ·have c':decide (i=k)=false:=by simp[c]
  have c'':decide ((i:Int)=(k:Int))=false:=by simp only[decide_eq_false_iff_not];omega
  simp only[go_sem,c,c'']
end
section
set_option maxRecDepth 100000
set_option maxHeartbeats 4000000
def nodeR(ip:ByteArray→Bool)(mt:ByteArray→ByteArray→Bool)(r:List XSchema→List XNode→Bool)(n:XSchema)(x:XNode):Bool:=
 if decide (n.kind=3) ||decide (n.kind=4) then decide (x.kids.length=0) && isVal ip mt n.type x.value
 else if decide (n.kind=2) then (keyOf n x).2 && (decide (x.value.size=0) && r (dk n.kids) x.kids)
 else decide (x.value.size=0) && ((n.present ||decide (0 < x.kids.length)) && r (dk n.kids) x.kids)
theorem q245{ip:ByteArray→Bool}{mt:ByteArray→ByteArray→Bool}(hP:∀s:ByteArray,s.size≤mg→G 227 [.str s]=some (0,[.bool (ip s)]))(hM:∀p s:ByteArray,p.size≤mg→s.size≤mg→G 236 [.str p,.str s]=some (0,[.bool (mt p s)]))
  {r:List XSchema→List XNode→Bool} {n:XSchema} {x:XNode} (hn:szC (eSchema n)≤mg) (hx:szC (eNode x)≤mg)
  (hR:G 246 [dSchemas (dk n.kids),dNodes x.kids]=some (0,[.bool (r (dk n.kids) x.kids)])) :
  G 245 (eSchema n++eNode x)=some (0,[.bool (nodeR ip mt r n x)]):=by
 rw[szC_schema]at hn;rw[szC_node]at hx;have b1:szC (eType n.type)≤mg:=by omega
 have b2:n.keys.length≤mg:=by simp only[szl]at hn;omega
 have b3:szl eSchema n.kids≤mg:=by omega
 have b4:x.value.size≤mg:=by omega
 have b5:x.kids.length≤mg:=by simp only[szl]at hx;omega
 have h1:=q238 hP hM b1 b4;have h2:=q244 (n:=n) (x:=x) b2 b5;have h3:=q81 b3;have hp:∀b:Bool,evPO .pl [.bool b]=some (.bool false):=fun b=>rfl;clear hP hM hn hx b1 b2 b3 b4 b5;simp only[eSchema_eq,eNode_eq,eType,List.cons_append,List.nil_append]at h1 h2;refine gOf s245 (by rw[eSchema_eq,eNode_eq];rfl) ?_;simp only[go_sem,t245,eSchema_eq,eNode_eq,nodeR];obtain⟨v3,c3⟩:∃v,decide (n.kind=3)=v:=⟨_,rfl⟩
 obtain⟨v4,c4⟩:∃v,decide (n.kind=4)=v:=⟨_,rfl⟩
 obtain⟨v2,c2⟩:∃v,decide (n.kind=2)=v:=⟨_,rfl⟩
 obtain⟨w,cw⟩:∃v,decide (x.kids.length=0)=v:=⟨_,rfl⟩
 have cw':decide ((x.kids.length:Int)=0)=w:=by rw[← cw];apply decide_eq_decide.2;omega
 have cg:decide ((0:Int) < (x.kids.length:Int))=!w:=by rw[← cw,← decide_not];apply decide_eq_decide.2;omega
 have cg':decide (0 < x.kids.length)=!w:=by rw[← cw,← decide_not];apply decide_eq_decide.2;omega
 obtain⟨e,ce⟩:∃v,decide (x.value=⟨#[]⟩)=v:=⟨_,rfl⟩
 have ce':decide (x.value.size=0)=e:=by rw[← ce,nstr0]
 cases v3<;>cases v4<;>cases v2<;>cases w<;>cases e<;>simp only[go_sem,c3,c4,c2,cw,cw',cg',ce,ce',h1,h2]
 all_goals try (cases hk:(keyOf n x).2<;>simp only[go_sem,ce,h3,hR,hp])
 all_goals try (cases hpr:n.present<;>simp only[go_sem,cg,h3,hR,hp])
theorem q321{ip:ByteArray→Bool}{mt:ByteArray→ByteArray→Bool}(hP:∀s:ByteArray,s.size≤mg→G 285 [.str s]=some (0,[.bool (ip s)]))(hM:∀p s:ByteArray,p.size≤mg→s.size≤mg→G 310 [.str p,.str s]=some (0,[.bool (mt p s)]))
  {r:List XSchema→List XNode→Bool} {n:XSchema} {x:XNode} (hn:szC (eSchema n)≤mg) (hx:szC (eNode x)≤mg)
  (hd:n.kind=1∨n.kind=2∨n.kind=3∨n.kind=4) (hR:G 322 [dSchemas n.kids,dNodes x.kids]=some (0,[.bool (r (dk n.kids) x.kids)])) :
  G 321 (eSchema n++eNode x)=some (0,[.bool (nodeR ip mt r n x)]):=by
 rw[szC_schema]at hn;rw[szC_node]at hx;have b1:szC (eType n.type)≤mg:=by omega
 have b2:n.keys.length≤mg:=by simp only[szl]at hn;omega
 have b3:szl eSchema n.kids≤mg:=by omega
 have b4:x.value.size≤mg:=by omega
 have b5:x.kids.length≤mg:=by simp only[szl]at hx;omega
 have h1:=q312 hP hM b1 b4;have h2:=q320 (n:=n) (x:=x) b2 b5;have hp:∀b:Bool,evPO .pl [.bool b]=some (.bool false):=fun b=>rfl;clear hP hM hn hx b1 b2 b3 b4 b5;simp only[eSchema_eq,eNode_eq,eType,List.cons_append,List.nil_append]at h1 h2;refine gOf s321 (by rw[eSchema_eq,eNode_eq];rfl) ?_;simp only[go_sem,t321,eSchema_eq,eNode_eq,nodeR];have hc:∃v1 v2 v3 v4:Bool,decide (n.kind=1)=v1∧decide (n.kind=2)=v2∧decide (n.kind=3)=v3∧decide (n.kind=4)=v4∧((v1,v2,v3,v4)=(true,false,false,false)∨(v1,v2,v3,v4)=(false,true,false,false)∨(v1,v2,v3,v4)=(false,false,true,false)∨(v1,v2,v3,v4)=(false,false,false,true)):=by
  refine⟨_,_,_,_,rfl,rfl,rfl,rfl,?_⟩;rcases hd with h|h|h|h<;>rw[h]<;>decide
 obtain⟨v1,v2,v3,v4,c1,c2,c3,c4,hv⟩:=hc;clear hd;obtain⟨w,cw⟩:∃v,decide (x.kids.length=0)=v:=⟨_,rfl⟩
 have cw':decide ((x.kids.length:Int)=0)=w:=by rw[← cw];apply decide_eq_decide.2;omega
 have cg:decide ((0:Int) < (x.kids.length:Int))=!w:=by rw[← cw,← decide_not];apply decide_eq_decide.2;omega
 have cg':decide (0 < x.kids.length)=!w:=by rw[← cw,← decide_not];apply decide_eq_decide.2;omega
 obtain⟨e,ce⟩:∃v,decide (x.value=⟨#[]⟩)=v:=⟨_,rfl⟩
 have ce':decide (x.value.size=0)=e:=by rw[← ce,nstr0]
 cases hr:r (dk n.kids) x.kids<;>rcases hv with hv|hv|hv|hv<;>cases hv<;>cases w<;>cases e<;>simp only[go_sem,c3,c4,c2,cw,cw',cg',ce,ce',h1,h2,c1,hR,hr]
 all_goals try (cases hk:(keyOf n x).2<;>simp only[go_sem,ce,hR])
 all_goals try (cases hpr:n.present<;>simp only[go_sem,cg])
 all_goals try rw[hr]
end
section
set_option maxRecDepth 100000
set_option maxHeartbeats 4000000
def befR(t:Option (XNode×Nat))(s:XSchema)(k:Nat)(e:XNode):Bool:=match t with
 |none=>true
 |some (p,k')=>if decide (k'=k) && isRow s.kind then lessL (keyOf s p).1 (keyOf s e).1 else decide (k' < k)
def stpR{ρ:Type}(no:ρ)(nr:XSchema→XNode→Bool)(d:List XSchema)(i:Nat)(t:Option (XNode×Nat))(e:XNode):Sg (Option (XNode×Nat)) ρ:=match sfind d e.name with
 |none=>.out no
 |some k=>match nth d k with
  |none=>.out no
  |some s=>if (nr s e && befR t s k e)=true then .go (some (e,k)) else .out no
def isGo{σ ρ:Type}:Sg σ ρ→Bool
 | .go _=>true
 | .out _=>false
def rightR(nr:XSchema→XNode→Bool)(d:List XSchema)(l:List XNode):Bool:=isGo (foldE (stpR () nr d) 0 none l)
theorem stpR_out{ρ:Type}(no:ρ)(nr:XSchema→XNode→Bool)(d:List XSchema)(fin:Option (XNode×Nat)→ρ)(yes:ρ)(hf:∀t,fin t=yes):∀(l:List XNode) (i:Nat) (t:Option (XNode×Nat)),
  sgF fin (foldE (stpR no nr d) i t l)=if isGo (foldE (stpR () nr d) i t l)=true then yes else no
 |[],_,t=>hf t
 |e::l,i,t=>by
  cases h1:sfind d e.name with
  |none=>simp only[foldE,stpR,h1];rfl
  |some k=>
   cases h2:nth d k with
   |none=>simp only[foldE,stpR,h1,h2];rfl
   |some s=>
    cases h:(nr s e && befR t s k e)
    ·simp only[foldE,stpR,h1,h2,h,Bool.false_eq_true,if_false];rfl
    ·simp only[foldE,stpR,h1,h2,h,if_true];exact stpR_out no nr d fin yes hf l (i+1) (some (e,k))
def invR(d:List XSchema)(l:List XNode)(i:Nat)(t:Option (XNode×Nat)):Prop:=match t with
 |none=>i=0
 |some (p,k)=>∃j,i=j+1∧nth l j=some p∧sfind d p.name=some k
theorem q246{nr:XSchema→XNode→Bool}{d:List XSchema}{l:List XNode}(hd:szl eSchema d≤mg)(hl0:szl eNode l≤mg)
  (hN:∀s e,s∈d→e∈l→G 245 (eSchema s++eNode e)=some (0,[.bool (nr s e)])):G 246 [dSchemas d,dNodes l]=some (0,[.bool (rightR nr d l)]):=by
 have hdl:d.length≤mg:=by simp only[szl]at hd;omega
 have hll:l.length≤mg:=by simp only[szl]at hl0;omega
 refine gOf s246 rfl ?_;simp only[go_sem,t246];have hl:=gl_fold (b:=lB G l246_0) l (fun i (t:Option (XNode×Nat))=>(0,[dSchemas d,dNodes l,.int .i64 (i:Int)])) (stpR (0,[.bool false]) nr d) (fun t=>(1,[dSchemas d,dNodes l,.int .i64 l.length,.bool false])) (invR d l) none rfl (by
  intro i e t hn hI;have hi:=nth_len hn;have hw:=wj hi hll;have f1:=q82 (l:=d) (nm:=e.name) hdl;cases hf:sfind d e.name with
  |none=>
   rw[hf]at f1;simp only[go_sem,lB_,l246_0,hi,nth_map,hn,eNode_eq e,f1,ofI,stpR,hf,sgM];intro t' ht;cases ht
  |some k=>
   rw[hf]at f1;obtain⟨s,h1,h2⟩:=fnd_nth0 hf;have g1:=hN s e (nth_in h1) (nth_in hn);have hk0:decide ((k:Int) < 0)=false:=by simp only[decide_eq_false_iff_not];omega
   simp only[eSchema_eq,eNode_eq,List.cons_append,List.nil_append]at g1;have hinv:∀t',Sg.go (some (e,k))=(Sg.go t':Sg (Option (XNode×Nat)) (Nat×List D))→invR d l (i+1) t':=by
    intro t' ht;cases ht;exact⟨i,rfl,hn,hf⟩
   have hst:stpR (0,[D.bool false]) nr d i t e=if (nr s e && befR t s k e)=true then .go (some (e,k)) else .out (0,[D.bool false]):=by simp only[stpR,hf,h1]
   rw[hst];cases t with
   |none=>
    obtain rfl:i=0:=hI;simp only[go_sem,lB_,l246_0,hi,nth_map,hn,h1,eNode_eq e,eSchema_eq s,f1,ofI,g1,hk0,befR];cases hq:nr s e
    ·simp only[go_sem,sgM];intro t' ht;cases ht
    ·simp only[go_sem,sgM];exact⟨rfl,hinv⟩
   |some pk=>
    obtain⟨p,k'⟩:=pk;obtain⟨j,rfl,i2,i3⟩:=hI;obtain⟨s',i4,_⟩:=fnd_nth0 i3;have b1:s'.keys.length≤mg:=by
     have a1:=szl_mem eSchema (nth_in i4);rw[szC_schema]at a1;simp only[szl]at a1 hd;omega
    have b2:∀y:XNode,y∈l→y.kids.length≤mg:=by
     intro y hy;have a1:=szl_mem eNode hy;rw[szC_node]at a1;simp only[szl]at a1 hl0;omega
    have g2:=q249 hdl b1 (b2 p (nth_in i2)) (b2 e (nth_in hn)) i3 hf i4;have g3:(if decide (k'=k) && isRow s'.kind then lessL (keyOf s' p).1 (keyOf s' e).1 else decide (k' < k))=befR (some (p,k')) s k e:=by
     by_cases hk:k'=k
     ·subst hk;have:s'=s:=Option.some.inj (i4.symm.trans h1);subst this;simp only[befR]
     ·simp[befR,hk]
    rw[g3]at g2;simp only[eNode_eq,List.cons_append,List.nil_append]at g2;have e1:IntKind.i64.wrap (((j+1:Nat):Int) - 1)=(j:Int):=by rw[wrap_i64 (by simp only[mg]at hll;omega)];omega
    have e3:(0:Int) < ((j+1:Nat):Int):=by omega
    have hj:j < l.length:=by omega
    clear hd hl0 hN b1 b2 g3;obtain⟨bf,hbf⟩:∃v,befR (some (p,k')) s k e=v:=⟨_,rfl⟩
    obtain⟨nv,hnv⟩:∃v,nr s e=v:=⟨_,rfl⟩
    rw[hbf]at g2;rw[hnv]at g1;rw[hbf,hnv];simp only[go_sem,lB_,l246_0,hi,nth_map,hn,h1,eNode_eq e,eSchema_eq s,f1,ofI,g1,hk0];cases nv<;>cases bf<;>simp only[go_sem,sgM,e1,e3,nth_map,hn,i2,eNode_eq e,eNode_eq p,g2,hw]
    all_goals try (intro t' ht;cases ht)
    all_goals exact hinv _ rfl) (by
  intro t hI;simp only[go_sem,lB_,l246_0,Nat.lt_irrefl])
 rw[n0,stpR_out (yes:=(1,[dSchemas d,dNodes l,.int .i64 l.length,.bool false])) (hf:=fun _=>rfl)]at hl;rw[hl,rightR];cases isGo (foldE (stpR () nr d) 0 none l)<;>simp only[go_sem]
end
section
set_option maxRecDepth 100000
set_option maxHeartbeats 4000000
def lastI(t:Option (XNode×Nat)):Int:=match t with
 |none=>-1
 |some (_,k)=>(k:Int)
theorem stpR_fin{ρ:Type}(no:ρ)(nr:XSchema→XNode→Bool)(d:List XSchema)(fin:Option (XNode×Nat)→ρ):∀(l:List XNode) (i:Nat) (t:Option (XNode×Nat)),
  ∃t',sgF fin (foldE (stpR no nr d) i t l)=if isGo (foldE (stpR () nr d) i t l)=true then fin t' else no
 |[],_,t=>⟨t,rfl⟩
 |e::l,i,t=>by
  cases h1:sfind d e.name with
  |none=>exact⟨t,by simp only[foldE,stpR,h1];rfl⟩
  |some k=>
   cases h2:nth d k with
   |none=>exact⟨t,by simp only[foldE,stpR,h1,h2];rfl⟩
   |some s=>
    cases h:(nr s e && befR t s k e)
    ·exact⟨t,by simp only[foldE,stpR,h1,h2,h,Bool.false_eq_true,if_false];rfl⟩
    ·obtain⟨t',h'⟩:=stpR_fin no nr d fin l (i+1) (some (e,k));exact⟨t',by simp only[foldE,stpR,h1,h2,h,if_true];exact h'⟩
theorem q322_0{nr:XSchema→XNode→Bool}{d:List XSchema}{l:List XNode}(hd:szl eSchema d≤mg)(hl0:szl eNode l≤mg)
  (h0:d=[]) (hN:∀s e,s∈d→e∈l→G 321 (eSchema s++eNode e)=some (0,[.bool (nr s e)])) :
  ∃t,gloop (lB G l322_0) (0,[dNodes l,.int .i64 (-1),dNodes l,.int .i64 l.length,.int .i64 0,dSchemas d,dStrs (d.map XSchema.name)])=some (if rightR nr d l=true then (1,[dNodes l,.int .i64 (lastI t),dNodes l,.int .i64 l.length,.int .i64 l.length,.bool false,dSchemas d,dStrs (d.map XSchema.name)]) else (0,[.bool false])):=by
 have hdl:d.length≤mg:=by simp only[szl]at hd;omega
 have hll:l.length≤mg:=by simp only[szl]at hl0;omega
 have hl:=gl_fold (b:=lB G l322_0) l (fun i (t:Option (XNode×Nat))=>(0,[dNodes l,.int .i64 (lastI t),dNodes l,.int .i64 l.length,.int .i64 (i:Int),dSchemas d,dStrs (d.map XSchema.name)])) (stpR (0,[.bool false]) nr d) (fun t=>(1,[dNodes l,.int .i64 (lastI t),dNodes l,.int .i64 l.length,.int .i64 l.length,.bool false,dSchemas d,dStrs (d.map XSchema.name)])) (invR d l) none rfl (by
  intro i e t hn hI;have hi:=nth_len hn;have hw:=wj hi hll;have f1:=q96 (l:=d.map XSchema.name) (v:=e.name) (by rw[List.length_map];exact hdl);rw[ix_sfind]at f1;cases hf:sfind d e.name with
  |none=>
   rw[hf]at f1;have hp:evPO .pl [.int .i64 (-1)]=some (.bool false):=rfl;simp only[go_sem,lB_,l322_0,hi,nth_map,hn,eNode_eq e,f1,ofI,stpR,hf,sgM,hp];intro t' ht;cases ht
  |some k=>
   obtain⟨s,h1,_⟩:=fnd_nth0 hf;rw[h0]at h1;cases h1) (by
  intro t hI;simp only[go_sem,lB_,l322_0,Nat.lt_irrefl])
 obtain⟨t',h'⟩:=stpR_fin (0,[D.bool false]) nr d (fun t=>(1,[dNodes l,.int .i64 (lastI t),dNodes l,.int .i64 l.length,.int .i64 l.length,.bool false,dSchemas d,dStrs (d.map XSchema.name)])) l 0 none;rw[n0,h']at hl;exact⟨t',hl⟩
theorem q322_1{nr:XSchema→XNode→Bool}{d:List XSchema}{l:List XNode}(hd:szl eSchema d≤mg)(hl0:szl eNode l≤mg)
  (hN:∀s e,s∈d→e∈l→G 321 (eSchema s++eNode e)=some (0,[.bool (nr s e)])) :
  ∃t,gloop (lB G l322_1) (0,[dNodes l,.int .i64 (-1),dNodes l,.int .i64 l.length,.int .i64 0,dSchemas d,dStrs (d.map XSchema.name)])=some (if rightR nr d l=true then (1,[dNodes l,.int .i64 (lastI t),dNodes l,.int .i64 l.length,.int .i64 l.length,.bool false,dSchemas d,dStrs (d.map XSchema.name)]) else (0,[.bool false])):=by
 have hdl:d.length≤mg:=by simp only[szl]at hd;omega
 have hll:l.length≤mg:=by simp only[szl]at hl0;omega
 have hl:=gl_fold (b:=lB G l322_1) l (fun i (t:Option (XNode×Nat))=>(0,[dNodes l,.int .i64 (lastI t),dNodes l,.int .i64 l.length,.int .i64 (i:Int),dSchemas d,dStrs (d.map XSchema.name)])) (stpR (0,[.bool false]) nr d) (fun t=>(1,[dNodes l,.int .i64 (lastI t),dNodes l,.int .i64 l.length,.int .i64 l.length,.bool false,dSchemas d,dStrs (d.map XSchema.name)])) (invR d l) none rfl (by
  intro i e t hn hI;have hi:=nth_len hn;have hw:=wj hi hll;have f1:=q96 (l:=d.map XSchema.name) (v:=e.name) (by rw[List.length_map];exact hdl);rw[ix_sfind]at f1;cases hf:sfind d e.name with
  |none=>
   rw[hf]at f1;have hp:evPO .pl [.int .i64 (-1)]=some (.bool false):=rfl;simp only[go_sem,lB_,l322_1,hi,nth_map,hn,eNode_eq e,f1,ofI,stpR,hf,sgM,hp];intro t' ht;cases ht
  |some k=>
   rw[hf]at f1;obtain⟨s,h1,h2⟩:=fnd_nth0 hf;have g1:=hN s e (nth_in h1) (nth_in hn);have hk0:decide ((k:Int) < 0)=false:=by simp only[decide_eq_false_iff_not];omega
   simp only[eSchema_eq,eNode_eq,List.cons_append,List.nil_append]at g1;have hp:evPO .pl [.int .i64 (k:Int)]=some (.bool false):=rfl;have r1:=eld19 h1;have r2:=po_chk 19 false (d.map eSchema) k (by rw[List.length_map];exact nth_len h1);have hinv:∀t',Sg.go (some (e,k))=(Sg.go t':Sg (Option (XNode×Nat)) (Nat×List D))→invR d l (i+1) t':=by
    intro t' ht;cases ht;exact⟨i,rfl,hn,hf⟩
   have hst:stpR (0,[D.bool false]) nr d i t e=if (nr s e && befR t s k e)=true then .go (some (e,k)) else .out (0,[D.bool false]):=by simp only[stpR,hf,h1]
   rw[hst];have b1:∀y:XSchema,y∈d→y.keys.length≤mg:=by
    intro y hy;have a1:=szl_mem eSchema hy;rw[szC_schema]at a1;simp only[szl]at a1 hd;omega
   have b2:∀y:XNode,y∈l→y.kids.length≤mg:=by
    intro y hy;have a1:=szl_mem eNode hy;rw[szC_node]at a1;simp only[szl]at a1 hl0;omega
   clear hN hd hl0;cases t with
   |none=>
    obtain rfl:i=0:=hI;have m1:decide ((k:Int) < -1)=false:=by simp only[decide_eq_false_iff_not];omega
    have m2:decide ((k:Int)=-1)=false:=by simp only[decide_eq_false_iff_not];omega
    obtain⟨nv,hnv⟩:∃v,nr s e=v:=⟨_,rfl⟩
    rw[hnv]at g1;rw[hnv];simp only[go_sem,lB_,l322_1,hi,nth_map,hn,eNode_eq e,eSchema_eq s,f1,ofI,g1,hk0,befR,lastI,hp,r1,r2,m1];cases nv<;>simp only[go_sem,sgM,hw,m2]
    ·intro t' ht;cases ht
    ·exact hinv
   |some pk=>
    obtain⟨p,k'⟩:=pk;obtain⟨j,rfl,i2,i3⟩:=hI;have g2:=q326 (n:=s) (a:=p) (b:=e) (b1 s (nth_in h1)) (b2 p (nth_in i2)) (b2 e (nth_in hn));simp only[eSchema_eq,eNode_eq,List.cons_append,List.nil_append]at g2;have e1:IntKind.i64.wrap (((j+1:Nat):Int) - 1)=(j:Int):=by rw[wrap_i64 (by simp only[mg]at hll;omega)];omega
    have hj:j < l.length:=by omega
    obtain⟨bf,hbf⟩:∃v,befR (some (p,k')) s k e=v:=⟨_,rfl⟩
    obtain⟨nv,hnv⟩:∃v,nr s e=v:=⟨_,rfl⟩
    have hb:bf=if k'=k then decide (ordOf s p e < 0) else decide (k' < k):=by
     rw[← hbf];by_cases hk:k'=k
     ·subst hk;cases hr:isRow s.kind<;>simp[befR,hr,ordOf,less_cmp]
     ·simp[befR,hk]
    rw[hnv]at g1;rw[hbf,hnv];clear b1 b2 hst hbf;obtain⟨o,ho⟩:∃v,decide (0≤ordOf s p e)=v:=⟨_,rfl⟩
    have ho':decide (ordOf s p e < 0)=!o:=by rw[← ho,← decide_not];apply decide_eq_decide.2;omega
    rcases Nat.lt_trichotomy k k' with c|c|c
    ·have m1:decide ((k:Int) < (k':Int))=true:=by simp only[decide_eq_true_eq];omega
     have hb':bf=false:=by rw[hb,if_neg (by omega)];simp only[decide_eq_false_iff_not];omega
     subst hb';simp only[go_sem,lB_,l322_1,hi,nth_map,hn,eNode_eq e,f1,ofI,hk0,lastI,hp,m1];cases nv<;>simp only[go_sem,sgM]
     all_goals (intro t' ht;cases ht)
    ·subst c;have m1:decide ((k:Int) < (k:Int))=false:=by simp
     have m2:decide ((k:Int)=(k:Int))=true:=by simp
     rw[if_pos rfl,ho']at hb;subst hb;simp only[go_sem,lB_,l322_1,hi,nth_map,hn,eNode_eq e,eSchema_eq s,f1,ofI,g1,hk0,lastI,hp,r1,r2,m1];cases nv<;>cases o<;>simp only[go_sem,sgM,hw,e1,nth_map,i2,eNode_eq p,g2,ho]
     all_goals first|exact⟨rfl,hinv⟩|exact hinv|(intro t' ht;cases ht)
    ·have m1:decide ((k:Int) < (k':Int))=false:=by simp only[decide_eq_false_iff_not];omega
     have m2:decide ((k:Int)=(k':Int))=false:=by simp only[decide_eq_false_iff_not];omega
     have hb':bf=true:=by rw[hb,if_neg (by omega)];simp only[decide_eq_true_eq];omega
     subst hb';simp only[go_sem,lB_,l322_1,hi,nth_map,hn,eNode_eq e,eSchema_eq s,f1,ofI,g1,hk0,lastI,hp,r1,r2,m1];cases nv<;>simp only[go_sem,sgM,hw,m2]
     all_goals first|exact⟨rfl,hinv⟩|exact hinv|(intro t' ht;cases ht)) (by
  intro t hI;simp only[go_sem,lB_,l322_1,Nat.lt_irrefl])
 obtain⟨t',h'⟩:=stpR_fin (0,[D.bool false]) nr d (fun t=>(1,[dNodes l,.int .i64 (lastI t),dNodes l,.int .i64 l.length,.int .i64 l.length,.bool false,dSchemas d,dStrs (d.map XSchema.name)])) l 0 none;rw[n0,h']at hl;exact⟨t',hl⟩
end
section
set_option maxRecDepth 100000
set_option maxHeartbeats 4000000
theorem q322{nr:XSchema→XNode→Bool}{ks:List XSchema}{l:List XNode}(hk0:szl eSchema ks≤mg)(hl0:szl eNode l≤mg)
  (hN:∀s e,s∈dk ks→e∈l→G 321 (eSchema s++eNode e)=some (0,[.bool (nr s e)])):G 322 [dSchemas ks,dNodes l]=some (0,[.bool (rightR nr (dk ks) l)]):=by
 have hd:=Nat.le_trans (dk_le (es:=ks)) hk0;have hdl:(dk ks).length≤mg:=by simp only[szl]at hd;omega
 have h94:=q94 hk0;have h95:=q95 (l:=dk ks) hdl;refine gOf s322 rfl ?_;simp only[go_sem,t322];by_cases hq:dk ks=[]
 ·have hk:kE (dk ks)=0:=by rw[hq];rfl
  obtain⟨t,ht⟩:=q322_0 hd hl0 hq hN;simp only[go_sem,h94,hk,h95,ht];cases rightR nr (dk ks) l<;>simp only[go_sem]
 ·have hk:kE (dk ks)=1:=kE_ne hq;obtain⟨t,ht⟩:=q322_1 hd hl0 hN;simp only[go_sem,h94,hk,h95,ht];cases rightR nr (dk ks) l<;>simp only[go_sem]
end
section
set_option maxRecDepth 100000
set_option maxHeartbeats 4000000
def rightF(ip:ByteArray→Bool)(mt:ByteArray→ByteArray→Bool):Nat→XSchema→XNode→Bool
 |0,_,_=>false
 |N+1,n,x=>nodeR ip mt (rightR (rightF ip mt N)) n x
theorem q245_n{ip:ByteArray→Bool}{mt:ByteArray→ByteArray→Bool}(hP:∀s:ByteArray,s.size≤mg→G 227 [.str s]=some (0,[.bool (ip s)]))(hM:∀p s:ByteArray,p.size≤mg→s.size≤mg→G 236 [.str p,.str s]=some (0,[.bool (mt p s)]))
  (N:Nat):∀(n:XSchema) (x:XNode),SizeOf.sizeOf x < N→szC (eSchema n)≤mg→szC (eNode x)≤mg→G 245 (eSchema n++eNode x)=some (0,[.bool (rightF ip mt N n x)]):=by
 induction N with
 |zero=>intro n x h;omega
 |succ N ih=>
  intro n x h hn hx;refine q245 (r:=rightR (rightF ip mt N)) hP hM hn hx ?_;have a1:=hn;have a2:=hx;rw[szC_schema]at a1;rw[szC_node]at a2;have b1:szl eSchema (dk n.kids)≤mg:=Nat.le_trans dk_le (by omega);have b2:szl eNode x.kids≤mg:=by omega
  refine q246 b1 b2 ?_;intro s e hs he;have c1:=szl_mem eSchema hs;have c2:=szl_mem eNode he;have c3:=XNode.kid he;exact ih s e (by omega) (by omega) (by omega)
end
section
set_option maxRecDepth 100000
set_option maxHeartbeats 4000000
theorem dk_kind(n:Nat):∀(es:List XSchema),SizeOf.sizeOf es < n→∀s,s∈dk es→isDt s.kind=true:=by
 induction n with
 |zero=>intro es h;omega
 |succ n ih=>
  intro es h s hs;cases es with
  |nil=>rw[dk_nil]at hs;cases hs
  |cons e es=>
   rw[dk_cons]at hs;rcases List.mem_append.1 hs with hs|hs
   ·unfold dk1 at hs
    split at hs
    ·rename_i hk;rw[List.mem_singleton.1 hs];exact hk
    ·split at hs
     ·have h1:=XSchema.kids_lt e es;exact ih e.kids (by omega) s hs
     ·cases hs
   ·exact ih es (by simp only[List.cons.sizeOf_spec]at h;omega) s hs
theorem dt_cases{k:Int}(h:isDt k=true):k=1∨k=2∨k=3∨k=4:=by
 simp only[isDt,inB,Bool.and_eq_true,decide_eq_true_eq]at h;omega
theorem q321_n{ip:ByteArray→Bool}{mt:ByteArray→ByteArray→Bool}(hP:∀s:ByteArray,s.size≤mg→G 285 [.str s]=some (0,[.bool (ip s)]))(hM:∀p s:ByteArray,p.size≤mg→s.size≤mg→G 310 [.str p,.str s]=some (0,[.bool (mt p s)]))
  (N:Nat):∀(n:XSchema) (x:XNode),SizeOf.sizeOf x < N→isDt n.kind=true→szC (eSchema n)≤mg→szC (eNode x)≤mg→G 321 (eSchema n++eNode x)=some (0,[.bool (rightF ip mt N n x)]):=by
 induction N with
 |zero=>intro n x h;omega
 |succ N ih=>
  intro n x h hk hn hx;refine q321 (r:=rightR (rightF ip mt N)) hP hM hn hx (dt_cases hk) ?_;have a1:=hn;have a2:=hx;rw[szC_schema]at a1;rw[szC_node]at a2;have b0:szl eSchema n.kids≤mg:=by omega
  have b1:szl eSchema (dk n.kids)≤mg:=Nat.le_trans dk_le b0;have b2:szl eNode x.kids≤mg:=by omega
  refine q322 b0 b2 ?_;intro s e hs he;have c1:=szl_mem eSchema hs;have c2:=szl_mem eNode he;have c3:=XNode.kid he;exact ih s e (by omega) (dk_kind _ _ (Nat.lt_succ_self _) s hs) (by omega) (by omega)
end
section
set_option maxRecDepth 100000
set_option maxHeartbeats 4000000
noncomputable def isTree(ip:ByteArray→Bool)(mt:ByteArray→ByteArray→Bool)(ok:Bool)(s:List XSchema)(l:List XNode):Bool:=
 ok && (decide (cnNode l≤120) && rightR (rightF ip mt (SizeOf.sizeOf l)) (dk s) l)
theorem nd_lt{l:List XNode}{e:XNode}(h:e∈l):SizeOf.sizeOf e < SizeOf.sizeOf l:=List.sizeOf_lt_of_mem h
theorem q250{ip:ByteArray→Bool}{mt:ByteArray→ByteArray→Bool}(hP:∀s:ByteArray,s.size≤mg→G 227 [.str s]=some (0,[.bool (ip s)]))(hM:∀p s:ByteArray,p.size≤mg→s.size≤mg→G 236 [.str p,.str s]=some (0,[.bool (mt p s)]))
  {ok:Bool} {s:List XSchema} {l:List XNode} (hs:szl eSchema s≤mg) (hl:szl eNode l≤mg) (hS:G 241 [dSchemas s]=some (0,[.bool ok])):G 250 [dSchemas s,dNodes l]=some (0,[.bool (isTree ip mt ok s l)]):=by
 obtain⟨r,h1,h2⟩:=q242 (l:=l) (x:=120) hl (by omega) (by omega);have h3:=q81 hs;have h4:=q246 (nr:=rightF ip mt (SizeOf.sizeOf l)) (d:=dk s) (l:=l) (Nat.le_trans dk_le hs) hl (by
  intro s' e hs' he;have c1:=szl_mem eSchema hs';have c2:=szl_mem eNode he;have c4:=dk_le (es:=s);exact q245_n hP hM _ s' e (nd_lt he) (by omega) (by omega))
 have hr:decide (0≤r)=decide (cnNode l≤120):=by
  apply decide_eq_decide.2
  unfold LftNode at h2;omega
 have hp:∀b:Bool,evPO .pl [.bool b]=some (.bool false):=fun b=>rfl;clear hP hM h2;refine gOf s250 rfl ?_;simp only[go_sem,t250,hS,isTree];obtain⟨v,hv⟩:∃v,decide (cnNode l≤120)=v:=⟨_,rfl⟩
 rw[hv]at hr;cases ok<;>cases v<;>simp only[go_sem,h1,h3,h4,hr,hv,hp]
theorem q327{ip:ByteArray→Bool}{mt:ByteArray→ByteArray→Bool}(hP:∀s:ByteArray,s.size≤mg→G 285 [.str s]=some (0,[.bool (ip s)]))(hM:∀p s:ByteArray,p.size≤mg→s.size≤mg→G 310 [.str p,.str s]=some (0,[.bool (mt p s)]))
  {ok:Bool} {s:List XSchema} {l:List XNode} (hs:szl eSchema s≤mg) (hl:szl eNode l≤mg) (hS:G 316 [dSchemas s]=some (0,[.bool ok])):G 327 [dSchemas s,dNodes l]=some (0,[.bool (isTree ip mt ok s l)]):=by
 have h1:=q317 hl;have h4:=q322 (nr:=rightF ip mt (SizeOf.sizeOf l)) (ks:=s) (l:=l) hs hl (by
  intro s' e hs' he;have c1:=szl_mem eSchema hs';have c2:=szl_mem eNode he;have c4:=dk_le (es:=s);exact q321_n hP hM _ s' e (nd_lt he) (dk_kind _ _ (Nat.lt_succ_self _) s' hs') (by omega) (by omega))
 have hr:decide ((cnNode l:Int)≤120)=decide (cnNode l≤120):=by apply decide_eq_decide.2;omega
 clear hP hM;refine gOf s327 rfl ?_;simp only[go_sem,t327,hS,isTree];obtain⟨v,hv⟩:∃v,decide (cnNode l≤120)=v:=⟨_,rfl⟩
 rw[hv]at hr;cases ok<;>cases v<;>simp only[go_sem,h1,h4,hr,hv]
end
section
set_option maxRecDepth 100000
set_option maxHeartbeats 4000000
theorem bl_tot:∀(a b:List UInt8),Op.bytesLess a b=false→Op.bytesLess b a=false→a=b
 |[],[],_,_=>rfl
 |[],y::b,h,_=>by simp[Op.bytesLess]at h
 |x::a,[],_,h=>by simp[Op.bytesLess]at h
 |x::a,y::b,h1,h2=>by
  unfold Op.bytesLess at h1 h2;by_cases h:x < y
  ·simp[h]at h1
  ·by_cases h':y < x
   ·simp[h']at h2
   ·have e:x=y:=by
     have a1:¬x.toNat < y.toNat:=h;have a2:¬y.toNat < x.toNat:=h';exact UInt8.toNat_inj.1 (by omega)
    subst e;simp[h]at h1 h2;rw[bl_tot a b h1 h2]
theorem sl_tot{a b:ByteArray}(h1:sLess a b=false)(h2:sLess b a=false):a=b:=by
 have h:=bl_tot a.toList b.toList h1 h2;have e:∀x:ByteArray,x.toList=x.data.toList:=fun x=>ByteArray.toList_eq x;rw[e,e]at h;cases a;cases b
 simp only[ByteArray.mk.injEq]at h ⊢;exact Array.toList_inj.1 h
theorem cmpS_0{a b:ByteArray}:cmpS a b=0↔a=b:=by
 unfold cmpS;by_cases h:sLess a b=true
 ·simp only[h,if_true]
  constructor
  ·intro h;omega
  ·rintro rfl;rw[sl_irr]at h;cases h
 ·rw[if_neg h];by_cases e:a=b
  ·simp[e]
  ·simp[e]
theorem cmpL_0:∀{a b:List ByteArray},cmpL a b=0↔a=b
 |[],[]=>by simp[cmpL_nil]
 |[],y::b=>by simp[cmpL_nil]
 |x::a,[]=>by rw[cmpL_nil'];simp
 |x::a,y::b=>by
  rw[cmpL_cons];split
  ·rename_i h;rw[cmpL_0,cmpS_0.1 h];simp
  ·rename_i h
   constructor
   ·intro h';exact absurd h' h
   ·intro h';cases h';exact absurd (cmpS_0.2 rfl) h
theorem cmpL_tot:∀{a b:List ByteArray},¬cmpL a b < 0→¬cmpL b a < 0→a=b
 |[],[],_,_=>rfl
 |[],y::b,h,_=>by rw[cmpL_nil]at h;simp at h
 |x::a,[],_,h=>by rw[cmpL_nil]at h;simp at h
 |x::a,y::b,h1,h2=>by
  rw[cmpL_cons]at h1 h2;by_cases e:x=y
  ·subst e;rw[if_pos (cmpS_0.2 rfl)]at h1 h2;rw[cmpL_tot h1 h2]
  ·rw[if_neg (fun h=>e (cmpS_0.1 h))]at h1;rw[if_neg (fun h=>e (cmpS_0.1 h).symm)]at h2;have a1:sLess x y=false:=by
    cases h:sLess x y with
    |false=>rfl
    |true=>exfalso;apply h1;simp[cmpS,h]
   have a2:sLess y x=false:=by
    cases h:sLess y x with
    |false=>rfl
    |true=>exfalso;apply h2;simp[cmpS,h]
   exact absurd (sl_tot a1 a2) e
theorem less_eq(a b:List ByteArray):(!lessL a b && !lessL b a)=decide (a=b):=by
 rw[less_cmp,less_cmp,Bool.eq_iff_iff];simp only[Bool.and_eq_true,Bool.not_eq_true',decide_eq_false_iff_not,decide_eq_true_eq]
 constructor
 ·rintro⟨h1,h2⟩;exact cmpL_tot h1 h2
 ·rintro rfl;have:=(cmpL_0 (a:=a) (b:=a)).2 rfl;omega
def idxS(n:XSchema)(l:List XNode)(v:ByteArray)(key:List ByteArray):Option Nat:=
 fnd (fun y=>decide (y.name=n.name) && (!(decide (n.kind=4) && !decide (y.value=v)) && (!decide (n.kind=2) ||(!lessL (keyOf n y).1 key && !lessL key (keyOf n y).1)))) l 0
def sameK(n:XSchema)(a b:XNode):Bool:=!isRow n.kind ||((keyOf n a).2 && ((keyOf n b).2 && decide ((keyOf n a).1=(keyOf n b).1)))
def idxI(n:XSchema)(l:List XNode)(x:XNode):Option Nat:=
 fnd (fun y=>decide (y.name=n.name) && (decide (ordOf n x y=0) && sameK n x y)) l 0
theorem fnd_congr{α:Type}{p q:α→Bool}:∀{l:List α} {k:Nat},(∀x∈l,p x=q x)→fnd p l k=fnd q l k
 |[],_,_=>rfl
 |y::l,k,h=>by simp only[fnd,h y List.mem_cons_self,fnd_congr fun x hx=>h x (List.mem_cons_of_mem _ hx)]
theorem idx_eq{n:XSchema}{l:List XNode}{x:XNode}(hx:n.kind=2→(keyOf n x).2=true)(hl:∀y∈l,y.name=n.name→n.kind=2→(keyOf n y).2=true):idxS n l x.value (keyOf n x).1=idxI n l x:=by
 refine fnd_congr fun y hy=>?_;by_cases hn:y.name=n.name
 ·simp only[hn,decide_true,Bool.true_and];by_cases h2:n.kind=2
  ·have h4:¬n.kind=4:=by omega
   have e1:isRow n.kind=true:=by simp[isRow,h2]
   have h24:¬(2:Int)=4:=by decide
   simp only[h2,h24,decide_true,decide_false,Bool.false_and,Bool.not_false,Bool.true_and,Bool.not_true,Bool.false_or,less_eq,sameK,hx h2,hl y hy hn h2,ordOf,if_true,show isRow 2=true from rfl];rw[Bool.eq_iff_iff];simp only[Bool.and_eq_true,decide_eq_true_eq,cmpL_0,and_self];exact eq_comm
  ·by_cases h4:n.kind=4
   ·have e1:isRow n.kind=true:=by simp[isRow,h4]
    have k1:∀z:XNode,keyOf n z=([z.value],true):=fun z=>by rw[keyOf,if_neg h2]
    have h42:¬(4:Int)=2:=by decide
    simp only[h4,h42,decide_true,decide_false,Bool.true_and,Bool.not_false,Bool.true_or,Bool.and_true,Bool.not_not,sameK,ordOf,if_true,k1,show isRow 4=true from rfl,Bool.not_true,Bool.false_or];rw[Bool.eq_iff_iff];simp only[Bool.and_eq_true,decide_eq_true_eq,cmpL_0,and_self,List.cons.injEq,and_true];exact eq_comm
   ·have e1:isRow n.kind=false:=by simp[isRow,h2,h4]
    simp only[h2,h4,decide_false,Bool.false_and,Bool.not_false,Bool.true_or,Bool.and_true,sameK,e1,ordOf,Bool.false_eq_true,if_false,decide_true]
 ·simp only[hn,decide_false,Bool.false_and]
section
variable {ip:ByteArray→Bool} {mt:ByteArray→ByteArray→Bool}
def Rt(ip:ByteArray→Bool)(mt:ByteArray→ByteArray→Bool)(d:List XSchema)(l:List XNode):Prop:=∃N,rightR (rightF ip mt N) d l=true
theorem right_mem{nr:XSchema→XNode→Bool}{d:List XSchema}:∀{l:List XNode} {i:Nat} {t:Option (XNode×Nat)},isGo (foldE (stpR () nr d) i t l)=true→∀x∈l,∃k n,sfind d x.name=some k∧nth d k=some n∧nr n x=true
 |e::l,i,t,h,x,hx=>by
  cases h1:sfind d e.name with
  |none=>simp only[foldE,stpR,h1]at h;cases h
  |some k=>
   cases h2:nth d k with
   |none=>simp only[foldE,stpR,h1,h2]at h;cases h
   |some s=>
    cases h3:(nr s e && befR t s k e) with
    |false=>simp only[foldE,stpR,h1,h2,h3,Bool.false_eq_true,if_false]at h;cases h
    |true=>
     simp only[foldE,stpR,h1,h2,h3,if_true]at h;rcases List.mem_cons.1 hx with rfl|hx
     ·exact⟨k,s,h1,h2,(Bool.and_eq_true _ _▸h3).1⟩
     ·exact right_mem h x hx
theorem Rt_nil{d:List XSchema}:Rt ip mt d []:=⟨0,rfl⟩
theorem Rt_mem{d:List XSchema}{l:List XNode}(h:Rt ip mt d l){x:XNode}(hx:x∈l):∃k n,sfind d x.name=some k∧nth d k=some n∧(n.kind=2→(keyOf n x).2=true)∧Rt ip mt (dk n.kids) x.kids:=by
 obtain⟨N,hN⟩:=h;obtain⟨k,n,h1,h2,h3⟩:=right_mem hN x hx;refine⟨k,n,h1,h2,?_⟩;cases N with
 |zero=>cases h3
 |succ N=>
  simp only[rightF,nodeR]at h3
  split at h3
  ·rename_i hk;simp only[Bool.or_eq_true,decide_eq_true_eq]at hk;simp only[Bool.and_eq_true,decide_eq_true_eq]at h3;refine⟨fun h=>by omega,?_⟩;rw[List.length_eq_zero_iff.1 h3.1];exact Rt_nil
  ·split at h3
   ·simp only[Bool.and_eq_true]at h3;exact⟨fun _=>h3.1,N,h3.2.2⟩
   ·rename_i hk;simp only[Bool.and_eq_true]at h3;refine⟨fun h=>by simp[h]at hk,N,h3.2.2⟩
theorem isTree_Rt{ok:Bool}{s:List XSchema}{l:List XNode}(h:isTree ip mt ok s l=true):Rt ip mt (dk s) l:=by
 simp only[isTree,Bool.and_eq_true]at h;exact⟨_,h.2.2⟩
def pairF(ix:XSchema→List XNode→XNode→Option Nat)(s:List XSchema)(b:List XNode)(x:XNode):Option (XSchema×XNode):=match sfind (dk s) x.name with
 |some k=>(match nth (dk s) k with
  |some n=>(match ix n b x with
   |some j=>(match nth b j with
    |some y=>if (decide (n.kind=3) && !decide (y.value=x.value))=true then none else some (n,y)
    |none=>none)
   |none=>none)
  |none=>none)
 |none=>none
def ixS(n:XSchema)(b:List XNode)(x:XNode):Option Nat:=idxS n b x.value (keyOf n x).1
def partF(ix:XSchema→List XNode→XNode→Option Nat):Nat→List XSchema→List XNode→List XNode→Bool
 |0,_,_,_=>false
 |m+1,s,a,b=>a.all fun x=>match pairF ix s b x with
  |some (n,y)=>partF ix m n.kids x.kids y.kids
  |none=>false
theorem ix_eq{s:List XSchema}{a b:List XNode}(ha:Rt ip mt (dk s) a)(hb:Rt ip mt (dk s) b){x:XNode}(hx:x∈a){k:Nat}{n:XSchema}(h1:sfind (dk s) x.name=some k)(h2:nth (dk s) k=some n):ixS n b x=idxI n b x:=by
 have hn:n.name=x.name:=by
  obtain⟨e,e1,e2⟩:=fnd_nth0 h1;rw[h2]at e1;cases e1
  simpa using e2
 refine idx_eq (fun hk=>?_) fun y hy hyn hk=>?_
 ·obtain⟨k',n',g1,g2,g3,_⟩:=Rt_mem ha hx;rw[h1]at g1;cases g1;rw[h2]at g2;cases g2;exact g3 hk
 ·obtain⟨k',n',g1,g2,g3,_⟩:=Rt_mem hb hy;rw[hyn,hn,h1]at g1;cases g1;rw[h2]at g2;cases g2;exact g3 hk
theorem pair_eq{s:List XSchema}{a b:List XNode}(ha:Rt ip mt (dk s) a)(hb:Rt ip mt (dk s) b){x:XNode}(hx:x∈a):pairF ixS s b x=pairF idxI s b x:=by
 unfold pairF;split
 ·rename_i k h1;split
  ·rename_i n h2;rw[ix_eq ha hb hx h1 h2]
  ·rfl
 ·rfl
theorem pair_Rt{ix:XSchema→List XNode→XNode→Option Nat}(hix:∀n l x j y,ix n l x=some j→nth l j=some y→y.name=n.name){s:List XSchema}{a b:List XNode}(ha:Rt ip mt (dk s) a)(hb:Rt ip mt (dk s) b){x y:XNode}{n:XSchema}(hx:x∈a)
  (h:pairF ix s b x=some (n,y)):Rt ip mt (dk n.kids) x.kids∧Rt ip mt (dk n.kids) y.kids∧n∈dk s∧y∈b∧n.name=x.name:=by
 unfold pairF at h
 split at h
 ·rename_i k h1
  split at h
  ·rename_i n' h2
   split at h
   ·rename_i j h3
    split at h
    ·rename_i y' h4
     split at h
     ·cases h
     ·cases h;obtain⟨e,e1,e2⟩:=fnd_nth0 h1;rw[h2]at e1;cases e1;have hn:n.name=x.name:=by simpa using e2
      have hy:=hix _ _ _ _ _ h3 h4;refine⟨?_,?_,nth_in h2,nth_in h4,hn⟩
      ·obtain⟨k',n',g1,g2,_,g4⟩:=Rt_mem ha hx;rw[h1]at g1;cases g1;rw[h2]at g2;cases g2;exact g4
      ·obtain⟨k',n',g1,g2,_,g4⟩:=Rt_mem hb (nth_in h4);rw[hy,hn,h1]at g1;cases g1;rw[h2]at g2;cases g2;exact g4
    ·cases h
   ·cases h
  ·cases h
 ·cases h
theorem idxI_name(n:XSchema)(l:List XNode)(x:XNode)(j:Nat)(y:XNode)(h:idxI n l x=some j)(hy:nth l j=some y):y.name=n.name:=by
 obtain⟨e,e1,e2⟩:=fnd_nth0 h;rw[hy]at e1;cases e1;simp only[Bool.and_eq_true,decide_eq_true_eq]at e2;exact e2.1
theorem part_eq:∀(m:Nat) (s:List XSchema) (a b:List XNode),Rt ip mt (dk s) a→Rt ip mt (dk s) b→partF ixS m s a b=partF idxI m s a b
 |0,_,_,_,_,_=>rfl
 |m+1,s,a,b,ha,hb=>by
  simp only[partF];rw[Bool.eq_iff_iff,List.all_eq_true,List.all_eq_true];have h:∀x∈a,(match pairF ixS s b x with
    |some (n,y)=>partF ixS m n.kids x.kids y.kids
    |none=>false)=(match pairF idxI s b x with
    |some (n,y)=>partF idxI m n.kids x.kids y.kids
    |none=>false):=by
   intro x hx;rw[pair_eq ha hb hx];cases hp:pairF idxI s b x with
   |none=>rfl
   |some p=>
    obtain⟨n,y⟩:=p;obtain⟨r1,r2,_⟩:=pair_Rt idxI_name ha hb hx hp;exact part_eq m n.kids x.kids y.kids r1 r2
  exact⟨fun hh x hx=>(h x hx)▸hh x hx,fun hh x hx=>(h x hx).symm▸hh x hx⟩
end
end
section
set_option maxRecDepth 100000
set_option maxHeartbeats 4000000
def noneS(n:XSchema):Bool:=n.keys.isEmpty && (n.unique.isEmpty && (decide (n.default.size=0) && (!n.given && (!n.fixed && (decide (n.min=0) && decide (n.max=0))))))
def kid1(l:List XSchema)(o:Option Nat)(p:XSchema→Bool):Bool:=match o with
 |some j=>(match nth l j with
  |some x=>p x
  |none=>false)
 |none=>false
def keyP(x:XSchema):Bool:=x.when.isEmpty && (!x.given && !decide (x.type.kind=6))
def keyS(l:List XSchema)(k:ByteArray):Bool:=kid1 l (sfind l k) fun x=>decide (x.kind=3) && keyP x
def uniS(l:List XSchema)(k:ByteArray):Bool:=kid1 l (sfind l k) fun x=>decide (x.kind=3)
def listS(n:XSchema):Bool:=n.keys.all (keyS n.kids) && (n.unique.all (uniS n.kids) && (zT n.type && (!n.keys.isEmpty && (okKeys n.keys && (okKeys n.unique && (okSize n && (!n.given && (!n.needed && (!n.present && (!n.fixed && decide (n.default.size=0)))))))))))
def leafS(ip:ByteArray→Bool)(n:XSchema):Bool:=n.keys.isEmpty && (n.unique.isEmpty && (decide (n.min=0) && (decide (n.max=0) && (!n.present && (n.kids.isEmpty && isType ip n.type)))))
def manyS(ip:ByteArray→Bool)(n:XSchema):Bool:=n.keys.isEmpty && (n.unique.isEmpty && (decide (n.default.size=0) && (!n.given && (!n.fixed && (!n.needed && (!n.present && (n.kids.isEmpty && (okSize n && isType ip n.type))))))))
def headS(n:XSchema):Bool:=isName n.name && (areX n.when 1 && areX n.must 3)
section
variable (ip:ByteArray→Bool) (mt:ByteArray→ByteArray→Bool)
def bodyS(n:XSchema)(free:Bool):Bool:=
 if n.kind=1 then noneS n && (!n.needed && zT n.type)
 else if n.kind=2 then listS n
 else if n.kind=3 then (if n.given=true then leafS ip n && (free && (!n.needed && (n.when.isEmpty && isVal ip mt n.type n.default))) else leafS ip n && decide (n.default.size=0))
 else if n.kind=4 then manyS ip n
 else if n.kind=5 then noneS n && (!n.present && (n.must.isEmpty && zT n.type))
 else if n.kind=6 then noneS n && (!n.present && (!n.needed && (n.must.isEmpty && zT n.type)))
 else false
def nodeS(n:XSchema)(free:Bool):Bool:=headS n && bodyS ip mt n free
def belowS(n:XSchema)(free:Bool):Bool:=free && (n.when.isEmpty && !decide (n.kind=6))
def kidS:Nat→List XSchema→Int→Bool→Nat→Bool
 |0,_,_,_,_=>false
 |m+1,l,k,free,deep=>
  allI (fun i n=>decide (sfind l n.name=some i) && (decide (decide (k=5)=decide (n.kind=6)) && (nodeS ip mt n free && kidS m n.kids n.kind (belowS n free) (deep+1)))) 0 l &&
   (allI (fun i n=>decide (sfind (dk l) n.name=some i)) 0 (dk l) && (decide (deep≤8) ||l.isEmpty))
def keyI(l:List XSchema)(k:ByteArray):Bool:=kid1 l (lfind l k) keyP
def badI(n:XSchema):Bool:=
 (!decide (n.kind=3) && (!decide (n.kind=4) && !zT n.type)) ||
 ((!decide (n.kind=2) && !(n.keys.isEmpty && n.unique.isEmpty)) ||
 ((!decide (n.kind=3) && (!decide (n.default.size=0) ||(n.given ||n.fixed))) ||
 ((!decide (n.kind=3) && (!decide (n.kind=5) && n.needed)) ||
 ((!decide (n.kind=1) && n.present) ||
 ((!decide (n.kind=2) && (!decide (n.kind=4) && (!decide (n.min=0) ||!decide (n.max=0)))) ||
 ((!isDt n.kind && !n.must.isEmpty) ||
 ((decide (n.kind=3) ||decide (n.kind=4)) && !n.kids.isEmpty)))))))
def okKeysI(l:List ByteArray):Bool:=decide (l.length≤3) && (difS l && l.all isName)
def bodyI(n:XSchema):Bool:=
 if n.kind=1 then true
 else if n.kind=2 then !n.keys.isEmpty && (okKeysI n.keys && (okKeysI n.unique && okSize n))
 else if n.kind=3 then isType ip n.type && (!(n.given && (n.needed ||!n.when.isEmpty)) && (if n.given=true then isVal ip mt n.type n.default else decide (n.default.size=0)))
 else if n.kind=4 then isType ip n.type && okSize n
 else if n.kind=5 then true
 else if n.kind=6 then true
 else if n.kind=7 then n.when.isEmpty && n.kids.isEmpty
 else false
def nodeI(n:XSchema):Bool:=headS n && (!badI n && bodyI ip mt n)
def kidI:Nat→List XSchema→Int→Bool→Bool
 |0,_,_,_=>false
 |m+1,l,k,bound=>
  (difS (l.map XSchema.name) && (isCh k ||difS ((dk l).map XSchema.name))) &&
   l.all fun n=>nodeI ip mt n && (!decide (n.kind=7) && (decide (decide (n.kind=6)=decide (k=5)) && (!(n.given && bound) && (n.keys.all (keyI n.kids) && (n.unique.all (fun u=>(lfind n.kids u).isSome) && kidI m n.kids n.kind (bound ||(!n.when.isEmpty ||decide (n.kind=6))))))))
end
theorem allI_iff{α:Type}{p:Nat→α→Bool}:∀{l:List α} {i:Nat},allI p i l=true↔∀j x,nth l j=some x→p (i+j) x=true
 |[],i=>⟨fun _ j x h=>by simp[nth]at h,fun _=>rfl⟩
 |y::l,i=>by
  simp only[allI,Bool.and_eq_true,allI_iff (l:=l)]
  constructor
  ·rintro⟨h1,h2⟩ j x hx
   cases j with
   |zero=>cases hx;exact h1
   |succ j=>have:=h2 j x hx;rwa [Nat.add_right_comm,Nat.add_assoc]at this
  ·intro h;refine⟨h 0 y rfl,fun j x hx=>?_⟩;have:=h (j+1) x hx
   rwa [Nat.add_right_comm,Nat.add_assoc]
theorem nth_of_mem{α:Type}:∀{l:List α} {x:α},x∈l→∃j,nth l j=some x
 |y::l,x,h=>by
  rcases List.mem_cons.1 h with rfl|h
  ·exact⟨0,rfl⟩
  ·obtain⟨j,hj⟩:=nth_of_mem h;exact⟨j+1,hj⟩
theorem fnd_first{α:Type}{p:α→Bool}:∀{l:List α} {k j:Nat} {e:α},nth l j=some e→p e=true→(∀i x,i < j→nth l i=some x→p x=false)→fnd p l k=some (k+j)
 |y::l,k,0,e,h,hp,_=>by cases h;simp only[fnd,hp,if_true,Nat.add_zero]
 |y::l,k,j+1,e,h,hp,hb=>by
  have h0:=hb 0 y (by omega) rfl;simp only[fnd,h0,Bool.false_eq_true,if_false];rw[fnd_first (l:=l) (k:=k+1) h hp fun i x hi hx=>hb (i+1) x (by omega) hx]
  congr 1;omega
theorem fnd_before{α:Type}{p:α→Bool}:∀{l:List α} {k j:Nat},fnd p l k=some j→∀i x,k+i < j→nth l i=some x→p x=false
 |[],k,j,h=>by simp[fnd]at h
 |y::l,k,j,h=>by
  intro i x hi hx;simp only[fnd]at h
  split at h
  ·cases h;omega
  ·rename_i hp;cases i with
   |zero=>cases hx;exact Bool.eq_false_iff.2 hp
   |succ i=>exact fnd_before h i x (by omega) hx
theorem nodup_nth{α β:Type}(f:α→β):∀{l:List α},(l.map f).Nodup↔∀i j x y,i < j→nth l i=some x→nth l j=some y→f x≠f y
 |[]=>by simp[nth]
 |z::l=>by
  simp only[List.map_cons,List.nodup_cons,nodup_nth f (l:=l)]
  constructor
  ·rintro⟨h1,h2⟩ i j x y hij hx hy
   obtain⟨j,rfl⟩:∃m,j=m+1:=⟨j - 1,by omega⟩
   cases i with
   |zero=>cases hx;exact fun e=>h1 (List.mem_map.2 ⟨y,nth_in (l:=l) hy,e.symm⟩)
   |succ i=>exact h2 i j x y (by omega) hx hy
  ·intro h;refine⟨fun hm=>?_,fun i j x y hij hx hy=>h (i+1) (j+1) x y (by omega) hx hy⟩;obtain⟨y,hy,he⟩:=List.mem_map.1 hm;obtain⟨j,hj⟩:=nth_of_mem hy;exact h 0 (j+1) z y (by omega) rfl hj he.symm
theorem firsts_iff(l:List XSchema):allI (fun i n=>decide (sfind l n.name=some i)) 0 l=true↔(l.map XSchema.name).Nodup:=by
 rw[allI_iff,nodup_nth];simp only[Nat.zero_add,decide_eq_true_eq]
 constructor
 ·intro h i j x y hij hx hy he;have h1:=h j y hy;have:=fnd_before h1 i x (by omega) hx;simp[he]at this
 ·intro h j x hx;have:=fnd_first (p:=fun e:XSchema=>decide (e.name=x.name)) (k:=0) hx (by simp) fun i y hi hy=>by simpa using h i j y x hi hy hx
  rw[Nat.zero_add]at this;exact this
theorem lfind_s{l:List XSchema}(hn:(l.map XSchema.name).Nodup)(k:ByteArray)(p:XSchema→Bool):kid1 l (sfind l k) (fun x=>decide (x.kind=3) && p x)=kid1 l (lfind l k) p:=by
 cases h:lfind l k with
 |some j=>
  obtain⟨e,h1,h2⟩:=fnd_nth0 h;simp only[Bool.and_eq_true,decide_eq_true_eq]at h2;have:sfind l k=some j:=by
   have:=fnd_first (p:=fun e:XSchema=>decide (e.name=k)) (k:=0) h1 (by simp[h2.1]) fun i y hi hy=>by
    have:=(nodup_nth XSchema.name).1 hn i j y e hi hy h1;rw[h2.1]at this
    simpa using this
   rw[Nat.zero_add]at this;exact this
  simp only[this,kid1,h1,h2.2,decide_true,Bool.true_and]
 |none=>
  cases h':sfind l k with
  |none=>rfl
  |some j=>
   obtain⟨e,h1,h2⟩:=fnd_nth0 h';by_cases h3:e.kind=3
   ·have:(lfind l k).isSome=true:=by
     unfold lfind;rw[fnd_some,List.any_eq_true];exact⟨e,nth_in h1,by simpa [h3] using h2⟩
    rw[h]at this;cases this
   ·simp only[kid1,h1,h3,decide_false,Bool.false_and]
theorem lfind_u{l:List XSchema}(hn:(l.map XSchema.name).Nodup)(k:ByteArray):uniS l k=(lfind l k).isSome:=by
 have:=lfind_s hn k fun _=>true;simp only[Bool.and_true]at this;rw[uniS,this];cases h:lfind l k with
 |none=>rfl
 |some j=>
  obtain⟨e,h1,_⟩:=fnd_nth0 h;simp only[kid1,h1,Option.isSome_some]
theorem lfind_k{l:List XSchema}(hn:(l.map XSchema.name).Nodup)(k:ByteArray):keyS l k=keyI l k:=lfind_s hn k keyP
theorem lfind_name{l:List XSchema}(h:∀x∈l,isName x.name=true){k:ByteArray}(hk:(lfind l k).isSome=true):isName k=true:=by
 obtain⟨j,hj⟩:=Option.isSome_iff_exists.1 hk;obtain⟨e,h1,h2⟩:=fnd_nth0 hj;simp only[Bool.and_eq_true,decide_eq_true_eq]at h2;rw[← h2.1];exact h e (nth_in h1)
theorem keyI_some{l:List XSchema}{k:ByteArray}(h:keyI l k=true):(lfind l k).isSome=true:=by
 unfold keyI kid1 at h
 split at h
 ·rename_i j hj;rw[hj];rfl
 ·cases h
theorem okKeys_I{l:List ByteArray}(h:∀k∈l,isName k=true):okKeysI l=okKeys l:=by
 have:l.all isName=true:=List.all_eq_true.2 h;rw[okKeysI,okKeys,this,Bool.and_true,Bool.and_comm]
section
variable {ip:ByteArray→Bool} {mt:ByteArray→ByteArray→Bool}
theorem bodyI_2{n:XSchema}(h:n.kind=2):(!badI n && bodyI ip mt n)=(zT n.type && (!n.keys.isEmpty && (okKeysI n.keys && (okKeysI n.unique && (okSize n && (!n.given && (!n.needed && (!n.present && (!n.fixed && decide (n.default.size=0)))))))))):=by
 simp only[badI,bodyI,h,isDt];cases zT n.type<;>cases n.keys.isEmpty<;>cases okKeysI n.keys<;>cases okKeysI n.unique<;>cases okSize n<;>cases n.given<;>cases n.needed<;>cases n.present<;>cases n.fixed<;>cases decide (n.default.size=0)<;>rfl
theorem kind_no{n:XSchema}{free:Bool}(h:¬(1≤n.kind∧n.kind≤6)):bodyS ip mt n free=false:=by
 simp only[bodyS];rw[if_neg (by omega),if_neg (by omega),if_neg (by omega),if_neg (by omega),if_neg (by omega),if_neg (by omega)]
theorem kind_noI{n:XSchema}(h:¬(1≤n.kind∧n.kind≤6))(h7:n.kind≠7):bodyI ip mt n=false:=by
 simp only[bodyI];rw[if_neg (by omega),if_neg (by omega),if_neg (by omega),if_neg (by omega),if_neg (by omega),if_neg (by omega),if_neg h7]
theorem node_eq{n:XSchema}{bound:Bool}(hn:(n.kids.map XSchema.name).Nodup)(hk:∀x∈n.kids,isName x.name=true) :
  (nodeS ip mt n (!bound)=true)↔nodeI ip mt n=true∧n.kind≠7∧(n.given && bound)=false∧n.keys.all (keyI n.kids)=true∧n.unique.all (fun u=>(lfind n.kids u).isSome)=true:=by
 unfold nodeS nodeI;cases headS n with
 |false=>simp
 |true=>
  simp only[Bool.true_and];by_cases h2:n.kind=2
  ·have e1:n.keys.all (keyS n.kids)=n.keys.all (keyI n.kids):=by congr 1;funext k;exact lfind_k hn k
   have e2:n.unique.all (uniS n.kids)=n.unique.all (fun u=>(lfind n.kids u).isSome):=by congr 1;funext k;exact lfind_u hn k
   rw[bodyI_2 h2];have e3:bodyS ip mt n (!bound)=listS n:=by simp only[bodyS,h2];rfl
   rw[e3,listS,e1,e2];cases h3:n.keys.all (keyI n.kids) with
   |false=>simp
   |true=>
    cases h4:n.unique.all (fun u=>(lfind n.kids u).isSome) with
    |false=>simp
    |true=>
     have k1:=okKeys_I (l:=n.keys) fun k hk'=>lfind_name hk (keyI_some (List.all_eq_true.1 h3 k hk'));have k2:=okKeys_I (l:=n.unique) fun k hk'=>lfind_name hk (List.all_eq_true.1 h4 k hk');rw[k1,k2,h2];cases n.given<;>simp
  ·by_cases hr:1≤n.kind∧n.kind≤6
   ·have hd:isDt n.kind=decide (n.kind≤4):=by
     by_cases h:n.kind≤4
     ·rw[decide_eq_true h];exact (inB_iff _ _ _).2 ⟨hr.1,h⟩
     ·rw[decide_eq_false h];exact Bool.eq_false_iff.2 fun h'=>h ((inB_iff _ _ _).1 h').2
    cases hK:n.keys with
    |cons a l=>
     have:badI n=true:=by simp[badI,h2,hK]
     have hb:bodyS ip mt n (!bound)=false:=by simp[bodyS,h2,noneS,leafS,manyS,hK]
     simp[this,hb]
    |nil=>
     cases hU:n.unique with
     |cons a l=>
      have:badI n=true:=by simp[badI,h2,hU]
      have hb:bodyS ip mt n (!bound)=false:=by simp[bodyS,h2,noneS,leafS,manyS,hU]
      simp[this,hb]
     |nil=>
      have h7:n.kind≠7:=by omega
      have hb:bodyS ip mt n (!bound)=(!badI n && (bodyI ip mt n && !(n.given && bound))):=by
       simp only[badI,bodyS,bodyI,noneS,leafS,manyS,hK,hU,hd,List.isEmpty_nil,Bool.true_and,Bool.and_true];obtain⟨h1,h6⟩:=hr;have hc:n.kind=1∨n.kind=3∨n.kind=4∨n.kind=5∨n.kind=6:=by omega
       rcases hc with h|h|h|h|h<;>simp only[h]<;>generalize zT n.type=z<;>generalize isType ip n.type=t<;>generalize isVal ip mt n.type n.default=v<;>generalize n.when.isEmpty=w<;>generalize n.must.isEmpty=u<;>generalize n.kids.isEmpty=q<;>generalize okSize n=o<;>generalize decide (n.default.size=0)=d<;>generalize decide (n.min=0)=m<;>generalize decide (n.max=0)=x<;>generalize n.given=g<;>generalize n.fixed=f<;>generalize n.needed=e<;>generalize n.present=p
       ·cases z<;>cases d<;>cases m<;>cases x<;>cases g<;>cases f<;>cases e<;>cases bound<;>rfl
       ·cases t<;>cases v<;>cases w<;>cases q<;>cases d<;>cases m<;>cases x<;>cases g<;>cases e<;>cases p<;>cases bound<;>rfl
       ·cases t<;>cases o<;>cases q<;>cases d<;>cases g<;>cases f<;>cases e<;>cases p<;>cases bound<;>rfl
       ·cases z<;>cases d<;>cases m<;>cases x<;>cases g<;>cases f<;>cases u<;>cases p<;>cases bound<;>rfl
       ·cases z<;>cases d<;>cases m<;>cases x<;>cases g<;>cases f<;>cases e<;>cases u<;>cases p<;>cases bound<;>rfl
      rw[hb];cases n.given<;>simp[h7,and_assoc]
   ·rw[kind_no hr];by_cases h7:n.kind=7
    ·simp[h7]
    ·rw[kind_noI hr h7];simp
theorem kidI_facts{m:Nat}{l:List XSchema}{k:Int}{b:Bool}(h:kidI ip mt m l k b=true):(l.map XSchema.name).Nodup∧∀x∈l,isName x.name=true:=by
 cases m with
 |zero=>cases h
 |succ m=>
  simp only[kidI,Bool.and_eq_true,List.all_eq_true]at h;refine⟨(difS_iff _).1 h.1.1,fun x hx=>?_⟩;have:=(h.2 x hx).1;simp only[nodeI,headS,Bool.and_eq_true]at this;exact this.1.1
theorem dpS_iff:∀(l:List XSchema) (N:Nat),dpS l≤N↔∀x∈l,1+dpS x.kids≤N
 |[],N=>by simp[dpS]
 |e::l,N=>by rw[dpS,Nat.max_le,dpS_iff l N];simp
theorem dpS_0{l:List XSchema}:dpS l=0↔l=[]:=by
 cases l with
 |nil=>simp[dpS]
 |cons e l=>rw[dpS];simp
theorem belowS_eq(n:XSchema)(bound:Bool):belowS n (!bound)=!(bound ||(!n.when.isEmpty ||decide (n.kind=6))):=by
 unfold belowS;cases bound<;>cases n.when.isEmpty<;>cases decide (n.kind=6)<;>rfl
theorem dk_sub{l:List XSchema}{n:XSchema}(hn:n∈l)(hc:isCh n.kind=true):(dk n.kids).Sublist (dk l):=by
 induction l with
 |nil=>cases hn
 |cons e l ih=>
  rw[dk_cons];rcases List.mem_cons.1 hn with rfl|h
  ·have:dk1 n=dk n.kids:=by
    unfold dk1;rw[if_neg,if_pos hc];intro h;have:=(notDt h).1;rw[hc]at this;cases this
   rw[this];exact List.sublist_append_left _ _
  ·exact (ih h).trans (List.sublist_append_right _ _)
theorem kid_eq:∀(m:Nat) (l:List XSchema) (k:Int) (bound:Bool) (deep:Nat),SizeOf.sizeOf l < m→1≤deep→
  (kidS ip mt m l k (!bound) deep=true↔kidI ip mt m l k bound=true∧((dk l).map XSchema.name).Nodup∧(dpS l=0∨deep+dpS l≤9)):=by
 intro m
 induction m with
 |zero=>intro l k bound deep h;omega
 |succ m ih=>
  intro l k bound deep hz hd;have ihk:∀n∈l,∀b,(kidS ip mt m n.kids n.kind (!b) (deep+1)=true↔kidI ip mt m n.kids n.kind b=true∧((dk n.kids).map XSchema.name).Nodup∧(dpS n.kids=0∨deep+1+dpS n.kids≤9)):=fun n hn b=>
   ih n.kids n.kind b (deep+1) (by have:=List.sizeOf_lt_of_mem hn;have:=XSchema.kids_lt1 n;omega) (by omega)
  constructor
  ·intro h;simp only[kidS,Bool.and_eq_true]at h;obtain⟨h1,h2,h3⟩:=h;rw[allI_iff]at h1;simp only[Nat.zero_add,Bool.and_eq_true,decide_eq_true_eq]at h1;have hN:(l.map XSchema.name).Nodup:=(firsts_iff l).1 (by rw[allI_iff];intro j x hx;rw[Nat.zero_add,decide_eq_true_eq];exact (h1 j x hx).1);have hD:=(firsts_iff (dk l)).1 h2;have hx:∀n∈l,(decide (k=5)=decide (n.kind=6))∧(nodeI ip mt n=true∧n.kind≠7∧(n.given && bound)=false∧n.keys.all (keyI n.kids)=true∧n.unique.all (fun u=>(lfind n.kids u).isSome)=true)∧kidI ip mt m n.kids n.kind (bound ||(!n.when.isEmpty ||decide (n.kind=6)))=true∧(dpS n.kids=0∨deep+1+dpS n.kids≤9):=by
    intro n hn;obtain⟨j,hj⟩:=nth_of_mem hn;obtain⟨_,a2,a3,a4⟩:=h1 j n hj;rw[belowS_eq]at a4;obtain⟨b1,_,b3⟩:=(ihk n hn _).1 a4;obtain⟨c1,c2⟩:=kidI_facts b1;exact⟨a2,(node_eq c1 c2).1 a3,b1,b3⟩
   refine⟨?_,hD,?_⟩
   ·simp only[kidI,Bool.and_eq_true,List.all_eq_true];refine⟨⟨(difS_iff _).2 hN,by rw[Bool.or_eq_true];exact .inr ((difS_iff _).2 hD)⟩,fun n hn=>?_⟩;obtain⟨a1,⟨a2,a3,a4,a5,a6⟩,a7,_⟩:=hx n hn;exact⟨a2,by simpa using a3,by rw[decide_eq_true_eq];exact a1.symm,by rw[a4];rfl,List.all_eq_true.1 a5,List.all_eq_true.1 a6,a7⟩
   ·by_cases hl:l=[]
    ·exact .inl (dpS_0.2 hl)
    ·have h8:deep≤8:=by
      cases l with
      |nil=>exact absurd rfl hl
      |cons e l=>simpa using h3
     have:=(dpS_iff l (9 - deep)).2 fun n hn=>by
      obtain⟨_,_,_,a⟩:=hx n hn;omega
     omega
  ·rintro⟨h1,hD,h3⟩
   simp only[kidI,Bool.and_eq_true,List.all_eq_true]at h1;obtain⟨⟨hN,hC⟩,hx⟩:=h1;have hN':=(difS_iff _).1 hN;have hdp:∀n∈l,deep+(1+dpS n.kids)≤9:=by
    intro n hn;rcases h3 with h3|h3
    ·rw[dpS_0.1 h3]at hn;cases hn
    ·have:=(dpS_iff l (9 - deep)).1 (by omega) n hn;omega
   simp only[kidS,Bool.and_eq_true];refine⟨?_,(firsts_iff (dk l)).2 hD,?_⟩
   ·rw[allI_iff];intro j n hj;have hn:=nth_in hj;obtain⟨a1,a2,a3,a4,a5,a6,a7⟩:=hx n hn;obtain⟨c1,c2⟩:=kidI_facts a7;have hf:=(firsts_iff l).2 hN';rw[allI_iff]at hf;simp only[Bool.and_eq_true];refine⟨hf j n hj,by rw[decide_eq_true_eq]at a3 ⊢;exact a3.symm,(node_eq c1 c2).2 ⟨a1,by simpa using a2,by cases hg:n.given<;>cases bound<;>simp_all,List.all_eq_true.2 a5,List.all_eq_true.2 a6⟩,?_⟩;rw[belowS_eq];refine (ihk n hn _).2 ⟨a7,?_,.inr (by have:=hdp n hn;omega)⟩;cases hc:isCh n.kind with
    |true=>exact List.Nodup.sublist ((dk_sub hn hc).map _) hD
    |false=>
     cases m with
     |zero=>cases a7
     |succ m=>
      simp only[kidI,Bool.and_eq_true,hc,Bool.false_or]at a7;exact (difS_iff _).1 a7.1.2
   ·rcases h3 with h3|h3
    ·rw[dpS_0.1 h3];simp
    ·cases l with
     |nil=>simp
     |cons e l=>
      have:=hdp e List.mem_cons_self;have:deep≤8:=by omega
      simp[this]
noncomputable def isSch(ip:ByteArray→Bool)(mt:ByteArray→ByteArray→Bool)(l:List XSchema):Bool:=decide (cnSchema l≤60) && kidS ip mt (SizeOf.sizeOf l+1) l 0 true 1
theorem isSch_I(l:List XSchema):isSch ip mt l=(decide (cnSchema l≤60) && (decide (dpS l≤8) && kidI ip mt (SizeOf.sizeOf l+1) l 0 false)):=by
 have h:=kid_eq (ip:=ip) (mt:=mt) (SizeOf.sizeOf l+1) l 0 false 1 (Nat.lt_succ_self _) (Nat.le_refl _);rw[Bool.not_false]at h;unfold isSch
 congr 1
 rw[Bool.eq_iff_iff,h,Bool.and_eq_true,decide_eq_true_eq]
 constructor
 ·rintro⟨a,_,c⟩
  exact⟨by omega,a⟩
 ·rintro⟨a,b⟩
  refine⟨b,?_,by omega⟩;simp only[kidI,Bool.and_eq_true,isCh,Bool.or_eq_true,decide_eq_true_eq]at b;rcases b.1.2 with h|h
  ·rcases h with h|h<;>omega
  ·exact (difS_iff _).1 h
end
end
section
set_option maxRecDepth 100000
set_option maxHeartbeats 4000000
abbrev PR:=Option (XPat×Nat)
abbrev eT:ByteArray:=⟨#[]⟩
def isAt(s:ByteArray)(i:Nat)(b:Int):Bool:=decide (i < s.size) && decide (bAt s i=b)
def bsT(f:Nat→Bool):ByteArray:=bA (((List.range 256).filter f).map UInt8.ofNat)
def anyT:ByteArray:=bsT fun x=>decide (32≤x) && decide (x≤126)
def inRs(r:List (Int×Int))(x:Nat):Bool:=r.any fun p=>decide (p.1≤(x:Int)) && decide ((x:Int)≤p.2)
def rngT(r:List (Int×Int)):ByteArray:=bsT (inRs r)
def pMem(s:ByteArray)(i:Nat):Option ((Int×Int)×Nat):=
 if (decide (i < s.size) && chB (bAt s i))=true then
  if isAt s (i+1) 126=true then
   if (decide (i+2 < s.size) && (chB (bAt s (i+2)) && decide (bAt s i≤bAt s (i+2))))=true then some ((bAt s i,bAt s (i+2)),i+3) else none
  else some ((bAt s i,bAt s i),i+1)
 else none
def pMems(s:ByteArray):Nat→Nat→Option (List (Int×Int)×Nat)
 |0,_=>none
 |f+1,i=>if isAt s i 93=true then some ([],i+1) else match pMem s i with
  |some (r,j)=>(pMems s f j).map fun p=>(r::p.1,p.2)
  |none=>none
def pCls(s:ByteArray)(i:Nat):PR:=match pMems s (s.size+1) i with
 |some (r::l,k)=>some (⟨1,rngT (r::l),[]⟩,k)
 |_=>none
def pCh(b:Int):Bool:=inB 97 122 b ||(inB 48 57 b ||decide (b=45))
def oneT(b:Int):ByteArray:=bA [UInt8.ofNat b.toNat]
def pAtom(alt:Nat→PR)(s:ByteArray)(i:Nat):PR:=
 if isAt s i 40=true then (match alt (i+1) with
  |some (p,j)=>if isAt s j 41=true then some (p,j+1) else none
  |none=>none)
 else if isAt s i 91=true then pCls s (i+1)
 else if isAt s i 46=true then some (⟨1,anyT,[]⟩,i+1)
 else if (decide (i < s.size) && pCh (bAt s i))=true then some (⟨1,oneT (bAt s i),[]⟩,i+1)
 else none
def pSuf(s:ByteArray)(p:XPat)(j:Nat):XPat×Nat:=
 if isAt s j 42=true then (⟨4,eT,[p]⟩,j+1)
 else if isAt s j 43=true then (⟨2,eT,[p,⟨4,eT,[p]⟩]⟩,j+1)
 else if isAt s j 63=true then (⟨5,eT,[p]⟩,j+1)
 else (p,j)
def pItem(alt:Nat→PR)(s:ByteArray)(i:Nat):PR:=(pAtom alt s i).map fun p=>pSuf s p.1 p.2
def pMore(s:ByteArray)(i:Nat):Bool:=decide (i < s.size) && (!decide (bAt s i=124) && !decide (bAt s i=41))
def pItems(alt:Nat→PR)(s:ByteArray):Nat→Nat→Option (List XPat×Nat)
 |0,_=>none
 |f+1,i=>if pMore s i=true then match pItem alt s i with
   |some (p,j)=>(pItems alt s f j).map fun q=>(p::q.1,q.2)
   |none=>none
  else some ([],i)
def wrapP(op:Int):List XPat→XPat
 |[p]=>p
 |l=>⟨op,eT,l⟩
def pSeq(alt:Nat→PR)(s:ByteArray)(i:Nat):PR:=(pItems alt s (s.size+1) i).map fun q=>(wrapP 2 q.1,q.2)
def pBars(alt:Nat→PR)(s:ByteArray):Nat→Nat→Option (List XPat×Nat)
 |0,_=>none
 |f+1,i=>if isAt s i 124=true then match pSeq alt s (i+1) with
   |some (p,j)=>(pBars alt s f j).map fun q=>(p::q.1,q.2)
   |none=>none
  else some ([],i)
def pAlt1(alt:Nat→PR)(s:ByteArray)(i:Nat):PR:=match pSeq alt s i with
 |some (p,j)=>(pBars alt s (s.size+1) j).map fun q=>(wrapP 3 (p::q.1),q.2)
 |none=>none
def pAlt(s:ByteArray):Nat→Nat→PR
 |0,_=>none
 |f+1,i=>pAlt1 (pAlt s f) s i
def pText(s:ByteArray):Option XPat:=if 30 < s.size then none else match pAlt s (s.size+1) 0 with
 |some (p,k)=>if k=s.size then some p else none
 |none=>none
def pOk(n:Nat)(p:XPat):Bool:=(decide (p.kids.length≤n) && decide (p.text.size≤256)) && p.kids.attach.all fun q=>pOk n q.1
termination_by SizeOf.sizeOf p
decreasing_by exact XPat.kid q.2
theorem pOk_eq(n:Nat)(p:XPat):pOk n p=((decide (p.kids.length≤n) && decide (p.text.size≤256)) && p.kids.all (pOk n)):=by
 rw[pOk]
 congr 1
 rw[Bool.eq_iff_iff,List.all_eq_true,List.all_eq_true];exact⟨fun h x hx=>h ⟨x,hx⟩ (List.mem_attach _ _),fun h x _=>h x.1 x.2⟩
theorem pOk_kid{n:Nat}{p q:XPat}(h:pOk n p=true)(hq:q∈p.kids):pOk n q=true:=by
 rw[pOk_eq,Bool.and_eq_true,List.all_eq_true]at h;exact h.2 q hq
theorem pOk_len{n:Nat}{p:XPat}(h:pOk n p=true):p.kids.length≤n:=by
 rw[pOk_eq,Bool.and_eq_true,Bool.and_eq_true,decide_eq_true_eq]at h;exact h.1.1
theorem pOk_txt{n:Nat}{p:XPat}(h:pOk n p=true):p.text.size≤256:=by
 rw[pOk_eq,Bool.and_eq_true,Bool.and_eq_true,decide_eq_true_eq,decide_eq_true_eq]at h;exact h.1.2
theorem pOk_mk{n:Nat}{op:Int}{t:ByteArray}{l:List XPat}(ht:t.size≤256)(h:l.length≤n)(hl:∀q∈l,pOk n q=true):pOk n ⟨op,t,l⟩=true:=by
 rw[pOk_eq,Bool.and_eq_true,Bool.and_eq_true,decide_eq_true_eq,decide_eq_true_eq,List.all_eq_true];exact⟨⟨h,ht⟩,hl⟩
theorem eT_sz:eT.size≤256:=Nat.zero_le _
theorem wrapP_ok{n:Nat}{op:Int}:∀{l:List XPat},l.length≤n→(∀q∈l,pOk n q=true)→pOk n (wrapP op l)=true
 |[p],_,h=>h p (List.mem_singleton.2 rfl)
 |[],h,hl=>pOk_mk eT_sz h hl
 |_::_::_,h,hl=>pOk_mk eT_sz h hl
theorem pSuf_ok{n:Nat}(h2:2≤n){s:ByteArray}{p:XPat}(j:Nat)(h:pOk n p=true):pOk n (pSuf s p j).1=true:=by
 unfold pSuf;have h4:pOk n ⟨4,eT,[p]⟩=true:=pOk_mk eT_sz (by simp;omega) (by simpa using h);have h5:pOk n ⟨5,eT,[p]⟩=true:=pOk_mk eT_sz (by simp;omega) (by simpa using h);have h2:pOk n ⟨2,eT,[p,⟨4,eT,[p]⟩]⟩=true:=pOk_mk eT_sz (by simpa using h2) (by simp[h,h4]);split
 ·exact h4
 split
 ·exact h2
 split
 ·exact h5
 ·exact h
theorem pSuf_le(s:ByteArray)(p:XPat)(j:Nat):j≤(pSuf s p j).2∧(j≤s.size→(pSuf s p j).2≤s.size):=by
 unfold pSuf;have hl:∀b,isAt s j b=true→j < s.size:=fun b h=>by simp only[isAt,Bool.and_eq_true,decide_eq_true_eq]at h;exact h.1
 split
 ·rename_i h;have:=hl _ h;exact⟨by simp,fun _=>this⟩
 split
 ·rename_i h;have:=hl _ h;exact⟨by simp,fun _=>this⟩
 split
 ·rename_i h;have:=hl _ h;exact⟨by simp,fun _=>this⟩
 ·exact⟨Nat.le_refl _,fun h=>h⟩
theorem bsT_sz(f:Nat→Bool):(bsT f).size≤256:=by
 have:=List.length_filter_le f (List.range 256);simp only[bsT,bA_size,List.length_map,List.length_range]at this ⊢;exact this
theorem isAt_lt{s:ByteArray}{i:Nat}{b:Int}(h:isAt s i b=true):i < s.size:=by simp only[isAt,Bool.and_eq_true,decide_eq_true_eq]at h;exact h.1
end
section
set_option maxRecDepth 100000
set_option maxHeartbeats 4000000
def hasB(t:ByteArray)(b:Int):Bool:=(List.range t.size).any fun k=>decide (bAt t k=b)
def chE(t s:ByteArray)(a:List Bool):List Bool:=false::(List.range s.size).map fun i=>(nth a i).getD false && hasB t (bAt s i)
def starN(f:List Bool→List Bool):Nat→List Bool→List Bool
 |0,x=>x
 |n+1,x=>if joinB x (f x)=x then x else starN f n (joinB x (f x))
def one1{α β:Type}(l:List α)(a:β)(g:α→β):β:=match l with
 |[k]=>g k
 |_=>a
theorem one1_n{α β:Type}{l:List α}{a:β}{g:α→β}(h:l.length≠1):one1 l a g=a:=by
 unfold one1;split
 ·exact absurd rfl h
 ·rfl
theorem one1_1{α β:Type}(k:α)(a:β)(g:α→β):one1 [k] a g=g k:=(rfl)
def endsF(f:XPat→List Bool→List Bool)(s:ByteArray)(p:XPat)(a:List Bool):List Bool:=
 if p.op=1 then chE p.text s a
 else if p.op=2 then p.kids.foldl (fun o k=>f k o) a
 else if p.op=3 then p.kids.foldl (fun o k=>joinB o (f k a)) (List.replicate (s.size+1) false)
 else if p.op=4 then one1 p.kids a fun k=>starN (f k) (s.size+2) a
 else if p.op=5 then one1 p.kids a fun k=>joinB a (f k a)
 else List.replicate (s.size+1) false
def endsN(s:ByteArray):Nat→XPat→List Bool→List Bool
 |0,_,a=>a
 |n+1,p,a=>endsF (endsN s n) s p a
noncomputable def matP(p:XPat)(s:ByteArray):Bool:=(nth (endsN s (SizeOf.sizeOf p+1) p (true::List.replicate s.size false)) s.size).getD false
noncomputable def matT(t s:ByteArray):Bool:=match pText t with
 |some p=>matP p s
 |none=>false
def isPat(t:ByteArray):Bool:=(pText t).isSome
theorem starN_len{f:List Bool→List Bool}:∀(n:Nat) (x:List Bool),(starN f n x).length=x.length
 |0,x=>rfl
 |n+1,x=>by
  simp only[starN];split
  ·rfl
  ·rw[starN_len n,joinB_len]
theorem chE_len(t s:ByteArray)(a:List Bool):(chE t s a).length=s.size+1:=by simp[chE]
theorem endsF_len{f:XPat→List Bool→List Bool}{s:ByteArray}{p:XPat}{a:List Bool}(hf:∀k∈p.kids,∀b:List Bool,b.length=s.size+1→(f k b).length=s.size+1)(ha:a.length=s.size+1):(endsF f s p a).length=s.size+1:=by
 unfold endsF;have h2:∀(l:List XPat) (b:List Bool),(∀k∈l,k∈p.kids)→b.length=s.size+1→(l.foldl (fun o k=>f k o) b).length=s.size+1:=by
  intro l
  induction l with
  |nil=>intro b _ h;exact h
  |cons k l ih=>intro b hl h;exact ih _ (fun x hx=>hl x (List.mem_cons_of_mem _ hx)) (hf k (hl k List.mem_cons_self) b h)
 have h3:∀(l:List XPat) (b:List Bool),b.length=s.size+1→(l.foldl (fun o k=>joinB o (f k a)) b).length=s.size+1:=by
  intro l
  induction l with
  |nil=>intro b h;exact h
  |cons k l ih=>intro b h;exact ih _ (by rw[joinB_len];exact h)
 split
 ·exact chE_len _ _ _
 split
 ·exact h2 _ _ (fun _ h=>h) ha
 split
 ·exact h3 _ _ (by simp)
 split
 ·unfold one1;split
  ·rw[starN_len];exact ha
  ·exact ha
 split
 ·unfold one1;split
  ·rw[joinB_len];exact ha
  ·exact ha
 ·simp
theorem endsN_len{s:ByteArray}:∀(n:Nat) (p:XPat) (a:List Bool),a.length=s.size+1→(endsN s n p a).length=s.size+1
 |0,_,_,h=>h
 |n+1,p,a,h=>endsF_len (fun k _ b hb=>endsN_len n k b hb) h
def outs:List Bool→Nat
 |[]=>0
 |b::l=>(if b then 0 else 1)+outs l
theorem outs_le:∀(l:List Bool),outs l≤l.length
 |[]=>Nat.le_refl _
 |b::l=>by have:=outs_le l;cases b<;>simp[outs]<;>omega
theorem joinB_outs:∀(x y:List Bool),outs (joinB x y)≤outs x∧(joinB x y≠x→outs (joinB x y) < outs x)
 |[],y=>by cases y<;>simp[joinB,outs]
 |b::x,[]=>by simp[joinB,outs]
 |b::x,c::y=>by
  obtain⟨h1,h2⟩:=joinB_outs x y;refine⟨by cases b<;>cases c<;>simp[joinB,outs]<;>omega,fun h=>?_⟩;cases b<;>cases c<;>simp_all[joinB,outs]<;>omega
theorem grewB_iff:∀(x y:List Bool),grewB x y=!decide (joinB x y=x)
 |[],y=>by cases y<;>simp[joinB,grewB]
 |b::x,[]=>by simp[joinB,grewB]
 |b::x,c::y=>by
  have:=grewB_iff x y;cases b<;>cases c<;>simp_all[joinB,grewB]
end
section
set_option maxRecDepth 100000
set_option maxHeartbeats 4000000
theorem isAt_iff{s:ByteArray}{i:Nat}{b:Int}:isAt s i b=true↔i < s.size∧bAt s i=b:=by simp[isAt]
theorem isAt_no{s:ByteArray}{i:Nat}{b:Int}(h:isAt s i b=false)(hi:i < s.size):¬bAt s i=b:=by
 intro h';rw[isAt_iff.2 ⟨hi,h'⟩]at h;cases h
theorem q216_t{s:ByteArray}{i:Nat}{c:Int}(hs:s.size≤mg)(h:isAt s i c=true):G 216 [.str s,.int .i64 (i:Int),.bool false,.int .u8 c]=some (0,[.bool true,.str s,.int .i64 ((i+1:Nat):Int),.bool false]):=by
 obtain⟨hi,hb⟩:=isAt_iff.1 h;have hw:=wj hi hs;refine gOf s216 rfl ?_;simp only[go_sem,t216,hi,hb,po_six _ _ hi,hw]
theorem q216_f{s:ByteArray}{i:Nat}{c:Int}(h:isAt s i c=false):G 216 [.str s,.int .i64 (i:Int),.bool false,.int .u8 c]=some (0,[.bool false,.str s,.int .i64 (i:Int),.bool false]):=by
 refine gOf s216 rfl ?_;by_cases hi:i < s.size
 ·have hb:=isAt_no h hi;simp only[go_sem,t216,hi,hb,po_six _ _ hi]
 ·simp only[go_sem,t216,hi]
theorem q216_b{s:ByteArray}{i c:Int}:G 216 [.str s,.int .i64 i,.bool true,.int .u8 c]=some (0,[.bool false,.str s,.int .i64 i,.bool true]):=by
 refine gOf s216 rfl ?_;simp only[go_sem,t216]
abbrev hB(f:Nat→Bool):D:=.list 1 true ((List.range 256).map fun x=>[D.bool (f x)])
abbrev bL(f:Nat→Bool)(n:Nat):D:=.list 1 true (((List.range n).filter f).map fun x:Nat=>[D.int .u8 (x:Int)])
theorem nth_rn{α:Type}{f:Nat→α}{n x:Nat}(h:x < n):nth ((List.range n).map f) x=some (f x):=by
 rw[nth_get];simp[h]
theorem hB_chk{f:Nat→Bool}{x:Nat}(h:x < 256):evPO .chk [hB f,.int .i64 (x:Int)]=some (.bool false):=po_chk _ _ _ _ (by simpa using h)
theorem hB_eld{f:Nat→Bool}{x:Nat}(h:x < 256):evPO (.eld 1 0 1 true) [hB f,.int .i64 (x:Int)]=some (.list 0 false [[.bool (f x)]]):=by
 simp only[evPO,Int.toNat_natCast,nth_rn h];simp[plains,D.plain]
theorem hB_set{f:Nat→Bool}{x:Nat}(h:x < 256):evPO (.set 0) [hB f,.int .i64 (x:Int),.bool true]=some (hB fun y=>f y ||decide (x=y)):=by
 simp only[evPO,Int.toNat_natCast,nth_rn h];rw[if_pos ⟨by simp,fun _=>by simp[plains,D.plain]⟩]
 congr 2
 apply List.ext_getElem (by simp)
 intro i h1 h2;simp only[List.length_map,List.length_range]at h2;rw[List.getElem_set];simp only[List.getElem_map,List.getElem_range];by_cases hx:x=i
 ·subst hx;simp[splC]
 ·simp[hx]
theorem hB_make:evPO (.make 1 1 true [zB false]) [.int .i64 256]=some (hB fun _=>false):=by
 have:(List.range 256).map (fun x:Nat=>[D.bool ((fun _=>false) x)])=List.replicate 256 [D.bool false]:=by
  rw[List.map_const'];simp
 simp only[hB,this];rfl
theorem po_mkE:evPO (.mkl 1 true) []=some (.list 1 true []):=po_mkl0 1 true
theorem filter_succ(f:Nat→Bool)(n:Nat):(List.range (n+1)).filter f=(List.range n).filter f++(if f n=true then [n] else []):=by
 rw[List.range_succ,List.filter_append]
 congr 1
 by_cases h:f n=true<;>simp[h]
theorem bL_app{f:Nat→Bool}{n:Nat}(hn:n < 256)(h:f n=true):evPO (.app 1 1) [bL f n,.list 1 true [[.int .u8 (n:Int)]]]=some (bL f (n+1)):=by
 have hl:((List.range n).filter f).length≤n:=by have:=List.length_filter_le f (List.range n);simpa using this
 rw[po_app _ _ _ _ _ (by simp only[List.length_map,List.length_cons,List.length_nil,room,maxLen];omega)];simp only[bL,filter_succ,h,if_true,List.map_append,List.map_cons,List.map_nil]
theorem bL_no{f:Nat→Bool}{n:Nat}(h:f n=false):bL f (n+1)=bL f n:=by
 simp only[bL,filter_succ,h,Bool.false_eq_true,if_false,List.append_nil]
theorem bytesOf_map:∀(l:List Nat),bytesOf (l.map fun x:Nat=>[D.int .u8 (x:Int)])=some (l.map fun x:Nat=>(x:Int))
 |[]=>rfl
 |x::l=>by simp only[List.map_cons,bytesOf,bytesOf_map l,Option.map_some]
theorem bL_bts{f:Nat→Bool}{n:Nat}:evPO .bts [bL f n]=some (.str (bA (((List.range n).filter f).map UInt8.ofNat))):=by
 simp only[bL,evPO,bytesOf_map,Option.map_some,List.map_map,bA];rfl
theorem bL_all{f:Nat→Bool}{n:Nat}(hn:n≤256)(h:∀x,n≤x→f x=false):bA (((List.range n).filter f).map UInt8.ofNat)=bsT f:=by
 have:∀m,(List.range (n+m)).filter f=(List.range n).filter f:=by
  intro m
  induction m with
  |zero=>rfl
  |succ m ih=>rw[← Nat.add_assoc,filter_succ,h (n+m) (by omega),ih];simp
 have h2:=this (256 - n);rw[show n+(256 - n)=256 by omega]at h2;rw[bsT,h2]
theorem conv_u8{x:Nat}(h:x < 256):IntKind.u8.wrap (x:Int)=(x:Int):=wrap_u8 (by omega)
theorem wrap_ofN{x:Nat}(h:x≤mg):IntKind.i64.wrap (x:Int)=(x:Int):=wrap_i64 (by simp only[mg]at h;omega)
theorem mkU(x:Int):evPO (.mkl 1 true) [.int .u8 x]=some (.list 1 true [[.int .u8 x]]):=po_mkl1 .u8 x
abbrev anyF(x:Nat):Bool:=decide (32≤x) && decide (x≤126)
theorem n32:((32:Nat):Int)=32:=(rfl)
theorem n127:((127:Nat):Int)=127:=(rfl)
theorem n256:((256:Nat):Int)=256:=(rfl)
theorem bL0(f:Nat→Bool):bL f 0=.list 1 true []:=(rfl)
theorem bL32:bL anyF 32=.list 1 true []:=by
 have:(List.range 32).filter anyF=[]:=by decide
 simp only[bL,this,List.map_nil]
theorem q221:G 221 []=some (0,[.str anyT]):=by
 refine gOf s221 rfl ?_;have hl:=gl_cnt (b:=lB G l221_0) (fun i=>(0,[.int .i64 ((i:Nat):Int),bL anyF i])) (fun i=>if 32≤i then none else some (0,[])) 127 (0,[.int .i64 127,.bool false,bL anyF 127]);have hl2:∀m i,i+m=127→32≤i→gloop (lB G l221_0) (0,[.int .i64 ((i:Nat):Int),bL anyF i])=some (0,[.int .i64 127,.bool false,bL anyF 127]):=by
  intro m
  induction m with
  |zero=>
   intro i h _;obtain rfl:i=127:=by omega
   refine gloop_out ?_;simp only[go_sem,lB_,l221_0,n127]
  |succ m ih=>
   intro i h hi;refine (gloop_go ?_).trans (ih (i+1) (by omega) (by omega));have h1:(i:Int) < 127:=by omega
   have h2:=conv_u8 (x:=i) (by omega);have h3:=bL_app (f:=anyF) (n:=i) (by omega) (by simp[anyF];omega);have h4:=wj (i:=i) (n:=127) (by omega) (by decide);simp only[go_sem,lB_,l221_0,h1,h2,h3,h4,mkU]
 have hl3:=hl2 95 32 rfl (by omega);rw[bL32,n32]at hl3;have h5:=bL_bts (f:=anyF) (n:=127);rw[bL_all (by decide) (fun x hx=>by simp[anyF];omega)]at h5;simp only[go_sem,t221,hl3,po_mkE,h5];rfl
theorem l220_e1:l220_1=l220_0:=(rfl)
theorem l220_e2:l220_2=l220_0:=(rfl)
theorem l220_e3:l220_3=l220_0:=(rfl)
theorem l220_e6:l220_6=l220_5:=(rfl)
theorem l220_0_ok{e op tx s i b:D}{z:Nat}(hz:z < 256):∀(m x:Nat) (f:Nat→Bool),x+m=z+1→
  gloop (lB G l220_0) (0,[e,.int .u8 (z:Int),.int .i64 (x:Int),op,tx,s,i,b,hB f])=some (0,[e,.int .u8 (z:Int),.int .i64 ((z+1:Nat):Int),.bool false,op,tx,s,i,b,hB fun y=>f y ||(decide (x≤y) && decide (y≤z))])
 |0,x,f,h=>by
  obtain rfl:x=z+1:=by omega
  have h1:decide (((z+1:Nat):Int)≤(z:Int))=false:=by simp only[decide_eq_false_iff_not];omega
  have h2:=wrap_ofN (x:=z) (by simp only[mg];omega);have h3:(fun y=>f y ||(decide (z+1≤y) && decide (y≤z)))=f:=by
   funext y
   by_cases h:z+1≤y
   ·have:¬y≤z:=by omega
    simp[h,this]
   ·simp[h]
  rw[h3];refine gloop_out ?_;simp only[go_sem,lB_,l220_0,h1,h2]
 |m+1,x,f,h=>by
  refine (gloop_go ?_).trans ((l220_0_ok (e:=e) (op:=op) (tx:=tx) (s:=s) (i:=i) (b:=b) hz m (x+1) (fun y=>f y ||decide (x=y)) (by omega)).trans ?_)
  ·have h1:decide ((x:Int)≤(z:Int))=true:=by simp only[decide_eq_true_eq];omega
   have h2:=wrap_ofN (x:=z) (by simp only[mg];omega);have h4:=wj (i:=x) (n:=256) (by omega) (by decide);simp only[go_sem,lB_,l220_0,h1,h2,h4,hB_chk (f:=f) (x:=x) (by omega),hB_set (f:=f) (x:=x) (by omega)]
  ·have he:(fun y=>(fun y=>f y ||decide (x=y)) y ||(decide (x+1≤y) && decide (y≤z)))=fun y=>f y ||(decide (x≤y) && decide (y≤z)):=by
    funext y
    by_cases h1:x=y
    ·subst h1;have:x≤z:=by omega
     simp[this]
    ·by_cases h2:x≤y
     ·have:x+1≤y:=by omega
      simp[h1,h2,this]
     ·have:¬x+1≤y:=by omega
      simp[h1,h2,this]
   rw[he]
theorem l220_5_ok{op tx s i b:D}{f:Nat→Bool}:∀(m x:Nat),x+m=256→
  gloop (lB G l220_5) (0,[.int .i64 (x:Int),op,tx,s,i,b,hB f,bL f x])=some (0,[.int .i64 256,.bool false,op,tx,s,i,b,hB f,bL f 256])
 |0,x,h=>by
  obtain rfl:x=256:=by omega
  refine gloop_out ?_;simp only[go_sem,lB_,l220_5,n256,Int.lt_irrefl]
 |m+1,x,h=>by
  refine (gloop_go ?_).trans (l220_5_ok m (x+1) (by omega));have h1:(x:Int) < 256:=by omega
  have h2:=hB_chk (f:=f) (x:=x) (by omega);have h3:=hB_eld (f:=f) (x:=x) (by omega);have h4:=wj (i:=x) (n:=256) (by omega) (by decide);have h5:=conv_u8 (x:=x) (by omega);cases hf:f x with
  |false=>
   rw[bL_no hf];rw[hf]at h3;simp only[go_sem,lB_,l220_5,h1,h2,h3,h4]
  |true=>
   rw[hf]at h3;simp only[go_sem,lB_,l220_5,h1,h2,h3,h4,h5,mkU,bL_app (f:=f) (n:=x) (by omega) hf]
theorem le_nn(a b:Nat):decide ((a:Int)≤(b:Int))=decide (a≤b):=by apply decide_eq_decide.2;omega
theorem bAt_nat(s:ByteArray)(i:Nat):∃a:Nat,a < 256∧bAt s i=(a:Int):=by
 have:=bAt_bd s i;exact⟨(bAt s i).toNat,by omega,by omega⟩
def st220(e:D)(s:ByteArray)(i:Nat)(f:Nat→Bool):Option (D×D)→Nat×List D
 |none=>(0,[e,.int .i64 0,.str ⟨#[]⟩,.str s,.int .i64 (i:Int),.bool false,hB f])
 |some (u,v)=>(1,[e,u,v,.bool false,.int .i64 0,.str ⟨#[]⟩,.str s,.int .i64 (i:Int),.bool false,hB f])
theorem in_one(f:Nat→Bool)(a:Nat)(l:List (Int×Int)):(fun y:Nat=>(f y ||(decide (a≤y) && decide (y≤a))) ||inRs l y)=fun y=>f y ||inRs (((a:Int),(a:Int))::l) y:=by
 funext y
 simp only[inRs,List.any_cons,Bool.or_assoc]
 congr 3<;>simp
theorem in_two(f:Nat→Bool)(a z:Nat)(l:List (Int×Int)):(fun y:Nat=>(f y ||(decide (a≤y) && decide (y≤z))) ||inRs l y)=fun y=>f y ||inRs (((a:Int),(z:Int))::l) y:=by
 funext y
 simp only[inRs,List.any_cons,Bool.or_assoc]
 congr 3<;>simp
def r220(e:D)(s:ByteArray)(i:Nat)(f:Nat→Bool)(r:Option (List (Int×Int)×Nat))(o:Nat×List D):Prop:=match r with
 |some (l,k)=>i+1+l.length≤k∧k≤s.size∧o=(1,[e,.bool false,.int .i64 0,.str ⟨#[]⟩,.str s,.int .i64 (k:Int),.bool false,hB fun y=>f y ||inRs l y])
 |none=>∃k:Nat,i≤k∧k≤s.size∧o=(0,[.int .i64 0,.str ⟨#[]⟩,.str s,.int .i64 (k:Int),.bool true])
theorem l220_4_ok{e:D}{s:ByteArray}(hs:s.size≤mg):∀(g i:Nat) (f:Nat→Bool) (q:Option (D×D)),i≤s.size→s.size+1 - i≤g→
  ∃o,gloop (lB G l220_4) (st220 e s i f q)=some o∧r220 e s i f (pMems s g i) o:=by
 intro g
 induction g with
 |zero=>intro i f q h1 h2;omega
 |succ g ih=>
  intro i f q hi hg;have nx:∀(j:Nat) (f':Nat→Bool) (u v:D) (rs:Int×Int),i < j→j≤s.size→(∀l,(fun y=>f' y ||inRs l y)=fun y=>f y ||inRs (rs::l) y)→lB G l220_4 (st220 e s i f q)=some (.go (st220 e s j f' (some (u,v))))→pMem s i=some (rs,j)→isAt s i 93=false→
    ∃o,gloop (lB G l220_4) (st220 e s i f q)=some o∧r220 e s i f (pMems s (g+1) i) o:=by
   intro j f' u v rs hij hj hf hgo hm h93;obtain⟨o,h1,h2⟩:=ih j f' (some (u,v)) hj (by omega);refine⟨o,(gloop_go hgo).trans h1,?_⟩;have hp:pMems s (g+1) i=(pMems s g j).map fun p=>(rs::p.1,p.2):=by simp only[pMems,h93,Bool.false_eq_true,if_false,hm]
   rw[hp];cases hr:pMems s g j with
   |none=>
    rw[hr]at h2;obtain⟨k,k1,k2,k3⟩:=h2;exact⟨k,by omega,k2,k3⟩
   |some p=>
    obtain⟨l,k⟩:=p;rw[hr]at h2;obtain⟨k1,k2,k3⟩:=h2;rw[hf]at k3;exact⟨by show i+1+(rs::l).length≤k;rw[List.length_cons];omega,k2,k3⟩
  have bd:∀(k:Nat),i≤k→k≤s.size→isAt s i 93=false→pMem s i=none→lB G l220_4 (st220 e s i f q)=some (.out (0,[.int .i64 0,.str ⟨#[]⟩,.str s,.int .i64 (k:Int),.bool true]))→
    ∃o,gloop (lB G l220_4) (st220 e s i f q)=some o∧r220 e s i f (pMems s (g+1) i) o:=by
   intro k k1 k2 h93 hm ho;refine⟨_,gloop_out ho,?_⟩;have hp:pMems s (g+1) i=none:=by simp only[pMems,h93,Bool.false_eq_true,if_false,hm]
   rw[hp];exact⟨k,k1,k2,rfl⟩
  cases h93:isAt s i 93 with
  |true=>
   obtain⟨hl,_⟩:=isAt_iff.1 h93;have h216:=q216_t hs h93;refine⟨(1,[e,.bool false,.int .i64 0,.str ⟨#[]⟩,.str s,.int .i64 ((i+1:Nat):Int),.bool false,hB f]),?_,?_⟩
   ·refine gloop_out ?_;cases q with
    |none=>simp only[go_sem,lB_,st220,l220_4,h216]
    |some p=>simp only[go_sem,lB_,st220,l220_4,h216]
   ·have hp:pMems s (g+1) i=some ([],i+1):=by simp only[pMems,h93,if_true]
    rw[hp];have he:(fun y=>f y ||inRs [] y)=f:=by funext y;simp[inRs]
    refine⟨by simp,by omega,?_⟩;rw[he]
  |false=>
   have h216:=q216_f h93;by_cases hl:i < s.size
   ·obtain⟨a,ha,hba⟩:=bAt_nat s i;have h219:=q219 (b:=bAt s i) (bAt_bd s i);have hx:=po_six s i hl;have hw:=wj hl hs;have hge:¬s.size≤i:=by omega
    cases hc:chB (bAt s i) with
    |false=>
     refine bd i (Nat.le_refl _) hi h93 (by simp only[pMem,hc,Bool.and_false,Bool.false_eq_true,if_false]) ?_;rw[hc]at h219;cases q with
     |none=>simp only[go_sem,lB_,st220,l220_4,h216,le_nn,hge,hx,h219]
     |some p=>simp only[go_sem,lB_,st220,l220_4,h216,le_nn,hge,hx,h219]
    |true=>
     rw[hc]at h219;cases ht:isAt s (i+1) 126 with
     |false=>
      have h2:=q216_f ht;have l0:=l220_0_ok (e:=e) (op:=.int .i64 0) (tx:=.str ⟨#[]⟩) (s:=.str s) (i:=.int .i64 ((i+1:Nat):Int)) (b:=.bool false) ha 1 a f rfl;rw[← hba]at l0;refine nx (i+1) _ (.int .u8 (bAt s i)) (.int .i64 ((a+1:Nat):Int)) (bAt s i,bAt s i) (by omega) (by omega) (fun l=>by rw[hba];exact in_one f a l) ?_ (by simp only[pMem,hl,hc,ht,decide_true,Bool.and_self,if_true,Bool.false_eq_true,if_false]) h93;cases q with
      |none=>simp only[go_sem,lB_,st220,l220_4,l220_e1,h216,le_nn,hge,hx,h219,hw,h2,l0]
      |some p=>simp only[go_sem,lB_,st220,l220_4,l220_e2,l220_e3,h216,le_nn,hge,hx,h219,hw,h2,l0]
     |true=>
      have h2:=q216_t hs ht;obtain⟨hl2,_⟩:=isAt_iff.1 ht;have hbad:∀(k:Nat),k=i+2→pMem s i=none→lB G l220_4 (st220 e s i f q)=some (.out (0,[.int .i64 0,.str ⟨#[]⟩,.str s,.int .i64 (k:Int),.bool true]))→∃o,gloop (lB G l220_4) (st220 e s i f q)=some o∧r220 e s i f (pMems s (g+1) i) o:=fun k hk hm ho=>bd k (by omega) (by omega) h93 hm ho;by_cases hl3:i+1+1 < s.size
      ·have hx3:=po_six s (i+1+1) hl3;have h2193:=q219 (b:=bAt s (i+1+1)) (bAt_bd s (i+1+1));have hw3:=wj hl3 hs;have hge3:¬s.size≤i+1+1:=by omega
       cases hc3:chB (bAt s (i+1+1)) with
       |false=>
        rw[hc3]at h2193;refine hbad (i+1+1) rfl (by simp only[pMem,hl,hc,ht,hc3,decide_true,Bool.and_self,if_true,Bool.false_and,Bool.and_false,Bool.false_eq_true,if_false]) ?_;cases q with
        |none=>simp only[go_sem,lB_,st220,l220_4,h216,le_nn,hge,hx,h219,hw,h2,hge3,hx3,h2193]
        |some p=>simp only[go_sem,lB_,st220,l220_4,h216,le_nn,hge,hx,h219,hw,h2,hge3,hx3,h2193]
       |true=>
        rw[hc3]at h2193;by_cases hlt:bAt s (i+1+1) < bAt s i
        ·have hle:¬bAt s i≤bAt s (i+1+1):=by omega
         refine hbad (i+1+1) rfl (by simp only[pMem,hl,hc,ht,hc3,hle,decide_true,decide_false,Bool.and_self,if_true,Bool.and_false,Bool.false_eq_true,if_false]) ?_;cases q with
         |none=>simp only[go_sem,lB_,st220,l220_4,h216,le_nn,hge,hx,h219,hw,h2,hge3,hx3,h2193,hlt]
         |some p=>simp only[go_sem,lB_,st220,l220_4,h216,le_nn,hge,hx,h219,hw,h2,hge3,hx3,h2193,hlt]
        ·have hle:bAt s i≤bAt s (i+1+1):=by omega
         obtain⟨z,hz,hbz⟩:=bAt_nat s (i+1+1);have l0:=l220_0_ok (e:=e) (op:=.int .i64 0) (tx:=.str ⟨#[]⟩) (s:=.str s) (i:=.int .i64 ((i+1+1+1:Nat):Int)) (b:=.bool false) hz (z+1 - a) a f (by omega);have wa:=wrap_ofN (x:=a) (by simp only[mg];omega);rw[← hbz,← hba]at l0;refine nx (i+1+1+1) _ (.int .u8 (bAt s (i+1+1))) (.int .i64 ((z+1:Nat):Int)) (bAt s i,bAt s (i+1+1)) (by omega) (by omega) (fun l=>by rw[hba,hbz];exact in_two f a z l) ?_ (by simp only[pMem,hl,hc,ht,hc3,hl3,hle,decide_true,Bool.and_self,if_true]) h93;cases q with
         |none=>simp only[go_sem,lB_,st220,l220_4,l220_e1,h216,le_nn,hge,hx,h219,hw,h2,hge3,hx3,h2193,hw3,hlt,l0]
         |some p=>simp only[go_sem,lB_,st220,l220_4,l220_e2,l220_e3,h216,le_nn,hge,hx,h219,hw,h2,hge3,hx3,h2193,hw3,hlt,l0]
      ·have hge3:s.size≤i+1+1:=by omega
       refine hbad (i+1+1) rfl (by
        have:¬i+2 < s.size:=hl3;simp only[pMem,hl,hc,ht,this,decide_true,decide_false,Bool.and_self,if_true,Bool.false_and,Bool.false_eq_true,if_false]) ?_
       cases q with
       |none=>simp only[go_sem,lB_,st220,l220_4,h216,le_nn,hge,hx,h219,hw,h2,hge3]
       |some p=>simp only[go_sem,lB_,st220,l220_4,h216,le_nn,hge,hx,h219,hw,h2,hge3]
   ·have hge:s.size≤i:=by omega
    refine bd i (Nat.le_refl _) hi h93 (by simp only[pMem,hl,decide_false,Bool.false_and,Bool.false_eq_true,if_false]) ?_;cases q with
    |none=>simp only[go_sem,lB_,st220,l220_4,h216,le_nn,hge]
    |some p=>simp only[go_sem,lB_,st220,l220_4,h216,le_nn,hge]
def PA(s:ByteArray)(i c:Nat)(r:PR)(p:XPat)(k:Nat)(b:Bool):Prop:=pOk 64 p=true∧i≤k∧k≤s.size∧match r with
 |some q=>b=false∧q=(p,k)∧i+c≤k
 |none=>b=true
theorem pOk_leaf(op:Int)(t:ByteArray)(h:t.size≤256):pOk 64 ⟨op,t,[]⟩=true:=pOk_mk h (by simp) (by simp)
theorem pMems_nil{s:ByteArray}{g i k:Nat}(h:pMems s g i=some ([],k)):k=i+1:=by
 cases g with
 |zero=>cases h
 |succ g=>
  simp only[pMems]at h
  split at h
  ·cases h;rfl
  ·split at h
   ·obtain⟨p,_,h⟩:=Option.map_eq_some_iff.1 h;simp at h
   ·cases h
theorem q220{s:ByteArray}{i:Nat}(hs:s.size≤mg)(hi:i≤s.size):∃p k b,G 220 [.str s,.int .i64 (i:Int),.bool false]=some (0,ePat p++[.str s,.int .i64 (k:Int),.bool b])∧PA s i 0 (pCls s i) p k b:=by
 obtain⟨o,h1,h2⟩:=l220_4_ok (e:=.int .i64 (i:Int)) hs (s.size+1) i (fun _=>false) none (by omega) (by omega);have hm:=hB_make;simp only[st220]at h1;cases hr:pMems s (s.size+1) i with
 |none=>
  rw[hr]at h2;obtain⟨k,k1,k2,rfl⟩:=h2;refine⟨⟨0,eT,[]⟩,k,true,gOf s220 rfl ?_,pOk_leaf _ _ eT_sz,k1,k2,by rw[pCls,hr]⟩;simp only[go_sem,t220,hm,h1,ePat_eq];rfl
 |some q=>
  obtain⟨l,k⟩:=q;rw[hr]at h2;obtain⟨k1,k2,rfl⟩:=h2;have hf:(fun y:Nat=>(fun _=>false) y ||inRs l y)=inRs l:=by funext y;simp
  rw[hf]at h1;have hw:IntKind.i64.wrap ((i:Int)+1)=((i+1:Nat):Int):=by rw[wrap_i64 (by simp only[mg]at hs;omega)];omega
  have l5:=fun tx ii b=>l220_5_ok (op:=.int .i64 0) (tx:=tx) (s:=.str s) (i:=ii) (b:=b) (f:=inRs l) 256 0 rfl;simp only[bL0,n0]at l5;have h5:=bL_bts (f:=inRs l) (n:=256);cases l with
  |nil=>
   have hk:=pMems_nil hr;subst hk;refine⟨⟨1,bsT (inRs []),[]⟩,i+1,true,gOf s220 rfl ?_,pOk_leaf _ _ (bsT_sz _),by omega,k2,by rw[pCls,hr]⟩;simp only[go_sem,t220,hm,h1,hw,po_mkE,l5,h5,ePat_eq];rfl
  |cons r l=>
   have hk:¬(k:Int)=((i+1:Nat):Int):=by rw[List.length_cons]at k1;omega
   refine⟨⟨1,bsT (inRs (r::l)),[]⟩,k,false,gOf s220 rfl ?_,pOk_leaf _ _ (bsT_sz _),by omega,k2,by rw[pCls,hr];exact⟨rfl,rfl,by omega⟩⟩;simp only[go_sem,t220,hm,h1,hw,hk,po_mkE,l5,l220_e6,h5,ePat_eq];rfl
end
section
set_option maxRecDepth 100000
set_option maxHeartbeats 4000000
theorem gl_up {σ ρ : Type} {b : σ → Option (Sg σ ρ)} (mk : Nat → σ) (n : Nat) {fin : ρ} (hgo : ∀ i, i < n → b (mk i) = some (.go (mk (i + 1)))) (hend : b (mk n) = some (.out fin)) : gloop b (mk 0) = some fin := by
  have h : ∀ m i, i + m = n → gloop b (mk i) = some fin := by
    intro m
    induction m with
    | zero => intro i h; obtain rfl : i = n := by omega
              exact gloop_out hend
    | succ m ih => intro i h; rw [gloop_go (hgo i (by omega))]; exact ih (i + 1) (by omega)
  exact h n 0 (by omega)
theorem bo_el{l:List Bool}{i:Nat}{b:Bool}(h:nth l i=some b):evPO (.el 1) [dBools l,.int .i64 (i:Int)]=some (.list 0 false [[.bool b]]):=by
 rw[po_eln,nth_map,h];rfl
theorem bo_chk{l:List Bool}{i:Nat}(h:i < l.length):evPO .chk [dBools l,.int .i64 (i:Int)]=some (.bool false):=po_chk _ _ _ _ (by simpa using h)
theorem bo_eld{l:List Bool}{i:Nat}{b:Bool}(h:nth l i=some b):evPO (.eld 1 0 1 true) [dBools l,.int .i64 (i:Int)]=some (.list 0 false [[.bool b]]):=by
 simp only[evPO,Int.toNat_natCast,nth_map,h,Option.map_some];simp[eBool,plains,D.plain]
theorem bo_set{l:List Bool}{i:Nat}{c:Bool}(h:i < l.length):evPO (.set 0) [dBools l,.int .i64 (i:Int),.bool c]=some (dBools (l.set i c)):=by
 have h1:nth l i=some l[i]:=nth_lt h;simp only[evPO,Int.toNat_natCast,nth_map,h1,Option.map_some];rw[if_pos ⟨by simp,fun _=>by simp[plains,D.plain]⟩];simp only[dBools,List.map_set];rfl
theorem bo_make{n:Nat}(h:n≤2097152):evPO (.make 1 1 true [zB false]) [.int .i64 (n:Int)]=some (dBools (List.replicate n false)):=by
 simp only[evPO,Int.toNat_natCast];rw[if_pos ⟨by omega,by simp only[room];omega,by omega⟩];simp[dBools,eBool,SK.d]
theorem bo_cpy{l m:List Bool}(h:m.length=l.length):evPO .cpy [dBools l,dBools m]=some (dBools m):=by
 simp only[evPO,List.length_map,h,and_self,if_true]
def fillB(J:List Bool)(i:Nat):List Bool:=J.take i++List.replicate (J.length - i) false
theorem fill_0(J:List Bool):fillB J 0=List.replicate J.length false:=by simp[fillB]
theorem fill_n(J:List Bool):fillB J J.length=J:=by simp[fillB]
theorem fill_len(J:List Bool)(i:Nat)(h:i≤J.length):(fillB J i).length=J.length:=by simp[fillB];omega
theorem fill_get(J:List Bool)(i j:Nat)(h:i≤J.length):(fillB J i)[j]?=if j < i then J[j]? else if j < J.length then some false else none:=by
 unfold fillB;rw[List.getElem?_append];have h1:(J.take i).length=i:=by rw[List.length_take];omega
 rw[h1];split
 ·rw[List.getElem?_take_of_lt (by assumption)]
 ·rw[List.getElem?_replicate];by_cases hj:j < J.length
  ·rw[if_pos (by omega),if_pos hj]
  ·rw[if_neg (by omega),if_neg hj]
theorem fill_succ{J:List Bool}{i:Nat}{b:Bool}(h:nth J i=some b):(fillB J i).set i b=fillB J (i+1):=by
 have hi:i < J.length:=nth_len h;rw[nth_get]at h
 apply List.ext_getElem?
 intro j;rw[List.getElem?_set,fill_get _ _ _ (by omega),fill_get _ _ _ (by omega),fill_len _ _ (by omega)];by_cases hj:i=j
 ·subst hj;rw[if_pos rfl,if_pos hi,if_pos (by omega),h]
 ·rw[if_neg hj];by_cases h1:j < i
  ·rw[if_pos h1,if_pos (by omega)]
  ·rw[if_neg h1,if_neg (show ¬j < i+1 by omega)]
theorem nth_joinB:∀{a b:List Bool} {i:Nat} {x y:Bool},nth a i=some x→nth b i=some y→nth (joinB a b) i=some (x ||y)
 |_::_,_::_,0,_,_,h1,h2=>by cases h1;cases h2;rfl
 |a::x,b::y,i+1,_,_,h1,h2=>nth_joinB (a:=x) (b:=y) h1 h2
theorem lenw{n:Nat}(h:n≤mg):IntKind.i64.wrap ((n:Int)+1)=((n+1:Nat):Int):=by rw[wrap_i64 (by simp only[mg]at h;omega)];omega
theorem q233{a b:List Bool}(ha:a.length≤mg+1)(hb:b.length=a.length):G 233 [dBools a,dBools b]=some (0,[dBools (joinB a b)]):=by
 have hJ:=joinB_len a b;have hm:=bo_make (n:=a.length) (by simp only[mg]at ha;omega);have hl:=gl_up (b:=lB G l233_0) (fun i=>(0,[dBools a,dBools b,.int .i64 (i:Int),dBools (fillB (joinB a b) i)])) a.length (fin:=(0,[dBools a,dBools b,.int .i64 a.length,.bool false,dBools (fillB (joinB a b) a.length)])) (by
  intro i hi;have hw:IntKind.i64.wrap ((i:Int)+1)=((i+1:Nat):Int):=lenw (by omega);have h1:nth a i=some a[i]:=nth_lt hi;have h2:nth b i=some (b[i]'(by omega)):=nth_lt (by omega);have h3:=nth_joinB h1 h2;have e1:=bo_el h1;have e2:=bo_el h2;have e3:=bo_chk (l:=fillB (joinB a b) i) (i:=i) (by rw[fill_len _ _ (by omega)];omega);have e4:=fun c=>bo_set (l:=fillB (joinB a b) i) (i:=i) (c:=c) (by rw[fill_len _ _ (by omega)];omega);have e5:=fill_succ h3;generalize a[i]=x at *;generalize (b[i]'(by omega))=y at *;cases x<;>cases y<;>simp only[Bool.or_true,Bool.or_false]at e5<;>simp only[go_sem,lB_,l233_0,hi,hw,e1,e2,e3,e4,e5]) (by
  simp only[go_sem,lB_,l233_0,Nat.lt_irrefl])
 rw[n0,fill_0,hJ,← hJ,fill_n,hJ]at hl;refine gOf s233 rfl ?_;simp only[go_sem,t233,hm,hl]
theorem any_range_succ(p:Nat→Bool)(k:Nat):(List.range (k+1)).any p=((List.range k).any p ||p k):=by
 rw[List.range_succ,List.any_append];simp
theorem nth_chE{t s:ByteArray}{a:List Bool}{i:Nat}{x:Bool}(hi:i < s.size)(h:nth a i=some x):nth (chE t s a) (i+1)=some (x && hasB t (bAt s i)):=by
 have:=nth_rn (f:=fun i=>(nth a i).getD false && hasB t (bAt s i)) hi;rw[h]at this;exact this
theorem nth_set_eq{l:List Bool}{i:Nat}{c:Bool}(h:i < l.length):nth (l.set i c) i=some c:=by
 rw[nth_get,List.getElem?_set];simp[h]
theorem l234_0_ok{s t:ByteArray}{a o:List Bool}{op ks:D}{i:Nat}{x:Bool}(hs:s.size≤mg)(ht:t.size≤mg)(hi:i < s.size)(ha:nth a i=some x)(ho:nth o (i+1)=some false) :
  ∃z:Int,gloop (lB G l234_0) (0,[.str s,dBools a,.int .i64 (i:Int),.int .i64 0,op,.str t,ks,dBools o])=some (0,[.str s,dBools a,.int .i64 (i:Int),.int .i64 z,.bool false,op,.str t,ks,dBools (o.set (i+1) (x && hasB t (bAt s i)))]):=by
 have e1:=bo_el ha;have hol:=nth_len ho;have hw:IntKind.i64.wrap ((i:Int)+1)=((i+1:Nat):Int):=lenw (by omega);cases x with
 |false=>
  have h0:o.set (i+1) (false && hasB t (bAt s i))=o:=by
   apply List.ext_getElem?
   intro j;rw[List.getElem?_set];rw[nth_get]at ho;by_cases hj:i+1=j
   ·subst hj;rw[if_pos rfl,if_pos hol,ho];rfl
   ·rw[if_neg hj]
  rw[h0];refine⟨0,gloop_out ?_⟩;by_cases h1:(0:Int) < (t.size:Int)
  ·simp only[go_sem,lB_,l234_0,h1,e1]
  ·simp only[go_sem,lB_,l234_0,h1]
 |true=>
  refine⟨t.size,?_⟩;have hl:=gl_up (b:=lB G l234_0) (fun k=>(0,[.str s,dBools a,.int .i64 (i:Int),.int .i64 (k:Int),op,.str t,ks,dBools (o.set (i+1) ((List.range k).any fun k=>decide (bAt t k=bAt s i)))])) t.size (fin:=(0,[.str s,dBools a,.int .i64 (i:Int),.int .i64 t.size,.bool false,op,.str t,ks,dBools (o.set (i+1) (hasB t (bAt s i)))])) (by
   intro k hk;have hwk:IntKind.i64.wrap ((k:Int)+1)=((k+1:Nat):Int):=lenw (by omega);rw[any_range_succ];generalize (List.range k).any (fun k=>decide (bAt t k=bAt s i))=q;have hsl:i+1 < (o.set (i+1) q).length:=by rw[List.length_set];exact hol
   have e2:=bo_chk hsl;have e3:=bo_eld (nth_set_eq (l:=o) (i:=i+1) (c:=q) hol);have e4:=fun c=>bo_set (l:=o.set (i+1) q) (i:=i+1) (c:=c) hsl;have e5:=po_six t k hk;have e6:=po_six s i hi;have e7:∀c,(o.set (i+1) q).set (i+1) c=o.set (i+1) c:=fun c=>List.set_set ..;simp only[e7]at e4;cases q<;>simp only[go_sem,lB_,l234_0,hk,hw,hwk,e1,e2,e3,e4,e5,e6]) (by
   have:hasB t (bAt s i)=(List.range t.size).any fun k=>decide (bAt t k=bAt s i):=rfl;rw[this];simp only[go_sem,lB_,l234_0,Nat.lt_irrefl])
  have h0:o.set (i+1) ((List.range 0).any fun k=>decide (bAt t k=bAt s i))=o:=by
   apply List.ext_getElem?
   intro j;rw[List.getElem?_set];rw[nth_get]at ho;by_cases hj:i+1=j
   ·subst hj;rw[if_pos rfl,if_pos hol,ho];rfl
   ·rw[if_neg hj]
  rw[h0,n0]at hl;rw[Bool.true_and];exact hl
theorem nth_fill{J:List Bool}{i j:Nat}(hi:i≤j)(hj:j < J.length):nth (fillB J i) j=some false:=by
 rw[nth_get,fill_get _ _ _ (by omega),if_neg (by omega),if_pos hj]
theorem l234_1_ok{s t:ByteArray}{a:List Bool}{op ks:D}(hs:s.size≤mg)(ht:t.size≤mg)(ha:a.length=s.size+1) :
  gloop (lB G l234_1) (0,[.str s,dBools a,.int .i64 0,op,.str t,ks,dBools (List.replicate (s.size+1) false)])=some (0,[.str s,dBools a,.int .i64 s.size,.bool false,op,.str t,ks,dBools (chE t s a)]):=by
 have hJ:=chE_len t s a;have hl:=gl_up (b:=lB G l234_1) (fun i=>(0,[.str s,dBools a,.int .i64 (i:Int),op,.str t,ks,dBools (fillB (chE t s a) (i+1))])) s.size (fin:=(0,[.str s,dBools a,.int .i64 s.size,.bool false,op,.str t,ks,dBools (fillB (chE t s a) (s.size+1))])) (by
  intro i hi;have hw:IntKind.i64.wrap ((i:Int)+1)=((i+1:Nat):Int):=lenw (by omega);have h1:nth a i=some (a[i]'(by omega)):=nth_lt (by omega);have h3:=nth_chE (t:=t) hi h1;obtain⟨z,hz⟩:=l234_0_ok (op:=op) (ks:=ks) hs ht hi h1 (nth_fill (J:=chE t s a) (i:=i+1) (j:=i+1) (Nat.le_refl _) (by omega));rw[fill_succ h3]at hz;simp only[go_sem,lB_,l234_1,hi,hw,hz]) (by
  simp only[go_sem,lB_,l234_1,Nat.lt_irrefl])
 have h0:fillB (chE t s a) (0+1)=List.replicate (s.size+1) false:=by
  rw[fillB,hJ];simp[chE,List.replicate_succ]
 rw[h0,n0]at hl;rw[hl]
 congr 9
 rw[← hJ,fill_n]
theorem l234_e7:l234_7=l234_4:=(rfl)
theorem l234_e8:l234_8=l234_4:=(rfl)
def neB(x y:List Bool):Bool:=!decide (x=y)
theorem any_ne:∀{x y:List Bool},x.length=y.length→(List.range x.length).any (fun j=>!decide (nth x j=nth y j))=neB x y
 |[],[],_=>rfl
 |a::x,b::y,h=>by
  have ih:=any_ne (x:=x) (y:=y) (by simpa using h);rw[List.length_cons,List.range_succ_eq_map,List.any_cons,List.any_map];have e1:((fun j=>!decide (nth (a::x) j=nth (b::y) j)) ∘ Nat.succ)=fun j=>!decide (nth x j=nth y j):=rfl;rw[e1,ih];simp only[neB,List.cons.injEq];have e2:nth (a::x) 0=some a:=rfl;have e3:nth (b::y) 0=some b:=rfl;rw[e2,e3];by_cases h1:a=b<;>by_cases h2:x=y<;>simp[h1,h2]
theorem l234_4_ok{s op tx ks:D}{o x:List Bool}(ho:o.length≤mg+1)(hx:x.length=o.length) :
  gloop (lB G l234_4) (0,[s,.bool false,.int .i64 0,op,tx,ks,dBools o,dBools x])=some (0,[s,.bool (neB x o),.int .i64 o.length,.bool false,op,tx,ks,dBools o,dBools x]):=by
 rw[← any_ne hx];have hl:=gl_up (b:=lB G l234_4) (fun i=>(0,[s,.bool ((List.range i).any fun j=>!decide (nth x j=nth o j)),.int .i64 (i:Int),op,tx,ks,dBools o,dBools x])) o.length (fin:=(0,[s,.bool ((List.range o.length).any fun j=>!decide (nth x j=nth o j)),.int .i64 o.length,.bool false,op,tx,ks,dBools o,dBools x])) (by
  intro i hi;have hw:IntKind.i64.wrap ((i:Int)+1)=((i+1:Nat):Int):=lenw (by omega);have h1:nth o i=some o[i]:=nth_lt hi;have h2:nth x i=some (x[i]'(by omega)):=nth_lt (by omega);rw[any_range_succ,h1,h2];generalize (List.range i).any (fun j=>!decide (nth x j=nth o j))=q;have e1:=bo_eld h1;have e2:=bo_eld h2;have e3:=bo_chk hi;have e4:=bo_chk (l:=x) (i:=i) (by omega);generalize o[i]=c at *;generalize (x[i]'(by omega))=d at *;cases q<;>cases c<;>cases d<;>simp only[go_sem,lB_,l234_4,hi,hw,e1,e2,e3,e4,Option.some.injEq]) (by
  simp only[go_sem,lB_,l234_4,Nat.lt_irrefl])
 rw[n0]at hl;rw[hx];exact hl
theorem ePat_len(p:XPat):(ePat p).length=3:=by rw[ePat_eq];rfl
theorem po_hasP(p:XPat)(k:Nat)(fl:Bool):evPO (.has 3) [.list k fl [ePat p]]=some (.bool false):=by
 rw[po_has,ePat_len,if_pos (Nat.le_refl 3)]
theorem el_P{l:List XPat}{i:Nat}{p:XPat}(h:nth l i=some p):evPO (.el 3) [dPats l,.int .i64 (i:Int)]=some (.list 0 false [ePat p]):=by
 rw[po_eln,nth_map,h];rfl
theorem el_P0{k:XPat}:evPO (.el 3) [dPats [k],.int .i64 0]=some (.list 0 false [ePat k]):=el_P (l:=[k]) (i:=0) rfl
def st234(h:Option D)(s:ByteArray)(op:Int)(t:ByteArray)(k:XPat)(x:List Bool):Nat×List D:=match h with
 |none=>(0,[.str s,.int .i64 op,.str t,dPats [k],dBools x])
 |some z=>(1,[.str s,z,.int .i64 op,.str t,dPats [k],dBools x])
section
variable {s:ByteArray} {k:XPat} {f:List Bool→List Bool} (hs:s.size≤mg) (hf:∀x:List Bool,x.length=s.size+1→(f x).length=s.size+1)
 (ih:∀x:List Bool,x.length=s.size+1→G 234 (ePat k++[.str s,dBools x])=some (0,[dBools (f x)]))
include hs hf ih
theorem l234_9_ok{t:ByteArray}:∀(m:Nat) (x:List Bool) (h:Option D),outs x < m→x.length=s.size+1→
  gloop (lB G l234_9) (st234 h s 4 t k x)=some (0,[.str s,.bool true,.int .i64 4,.str t,dPats [k],dBools (starN f m x)]):=by
 intro m
 induction m with
 |zero=>intro x h h1;omega
 |succ m im=>
  intro x h h1 hx;have e1:=ih x hx;rw[ePat_eq]at e1;simp only[List.cons_append,List.nil_append]at e1;have e2:=q233 (a:=x) (b:=f x) (by rw[hx];omega) (by rw[hf x hx,hx]);have hj:=joinB_len x (f x);have e3:=l234_4_ok (s:=.str s) (op:=.int .i64 4) (tx:=.str t) (ks:=dPats [k]) (o:=x) (x:=joinB x (f x)) (by rw[hx];omega) hj;simp only[starN];by_cases hc:joinB x (f x)=x
  ·rw[if_pos hc];have hn:neB (joinB x (f x)) x=false:=by simp[neB,hc]
   rw[hn,hc]at e3;rw[hc]at e2;refine gloop_out ?_;cases h with
   |none=>simp only[go_sem,lB_,st234,l234_9,l234_e7,el_P0,ePat_eq k,e1,e2,e3]
   |some z=>simp only[go_sem,lB_,st234,l234_9,l234_e8,el_P0,ePat_eq k,e1,e2,e3]
  ·rw[if_neg hc];have hn:neB (joinB x (f x)) x=true:=by simp[neB,hc]
   rw[hn]at e3;refine (gloop_go (s':=st234 (some (.bool false)) s 4 t k (joinB x (f x))) ?_).trans (im _ (some (.bool false)) (by have:=(joinB_outs x (f x)).2 hc;omega) (by rw[hj];exact hx));cases h with
   |none=>simp only[go_sem,lB_,st234,l234_9,l234_e7,el_P0,ePat_eq k,e1,e2,e3]
   |some z=>simp only[go_sem,lB_,st234,l234_9,l234_e8,el_P0,ePat_eq k,e1,e2,e3]
theorem l234_6_ok{t:ByteArray}{x:List Bool}(hx:x.length=s.size+1) :
  gloop (lB G l234_6) (0,[.str s,.int .i64 5,.str t,dPats [k],dBools x])=some (0,[.str s,.bool true,.int .i64 5,.str t,dPats [k],dBools (joinB x (f x))]):=by
 have e1:=ih x hx;rw[ePat_eq]at e1;simp only[List.cons_append,List.nil_append]at e1;have e2:=q233 (a:=x) (b:=f x) (by rw[hx];omega) (by rw[hf x hx,hx]);have hj:=joinB_len x (f x);have e3:=l234_4_ok (s:=.str s) (op:=.int .i64 5) (tx:=.str t) (ks:=dPats [k]) (o:=x) (x:=joinB x (f x)) (by rw[hx];omega) hj;refine gloop_out ?_;cases hn:neB (joinB x (f x)) x<;>rw[hn]at e3<;>simp only[go_sem,lB_,l234_6,el_P0,ePat_eq k,e1,e2,e3]
end
theorem foldl_snoc{α β:Type}(g:β→α→β)(b:β)(l:List α)(i:Nat)(x:α)(h:nth l i=some x):(l.take (i+1)).foldl g b=g ((l.take i).foldl g b) x:=by
 rw[take_succ_nth l i x h,List.foldl_append];rfl
theorem fold_len{s:ByteArray}{f:XPat→List Bool→List Bool}(hf:∀(k:XPat) (x:List Bool),x.length=s.size+1→(f k x).length=s.size+1):∀(l:List XPat) (b:List Bool),b.length=s.size+1→(l.foldl (fun o k=>f k o) b).length=s.size+1
 |[],_,h=>h
 |k::l,b,h=>fold_len hf l _ (hf k b h)
theorem foldJ_len{s:ByteArray}{g:XPat→List Bool}:∀(l:List XPat) (b:List Bool),b.length=s.size+1→(l.foldl (fun o k=>joinB o (g k)) b).length=s.size+1
 |[],_,h=>h
 |k::l,b,h=>foldJ_len l _ (by rw[joinB_len];exact h)
theorem nth0{α:Type}{l:List α}(h:l.length≠1):¬(l.length:Int)=1:=by omega
theorem q234_n{s:ByteArray}(hs:s.size≤mg)(n:Nat):∀(p:XPat) (a:List Bool),SizeOf.sizeOf p < n→pOk 64 p=true→a.length=s.size+1→G 234 (ePat p++[.str s,dBools a])=some (0,[dBools (endsN s n p a)]):=by
 induction n with
 |zero=>intro p a h;omega
 |succ n ih=>
  intro p a hz hp ha;have hlen:=endsN_len (s:=s) n;have hk:∀k∈p.kids,∀x:List Bool,x.length=s.size+1→G 234 (ePat k++[.str s,dBools x])=some (0,[dBools (endsN s n k x)]):=fun k hk x hx=>ih k x (by have:=XPat.kid hk;omega) (pOk_kid hp hk) hx;have hw:=lenw hs;have hm:=bo_make (n:=s.size+1) (by simp only[mg]at hs;omega);have hkl:=pOk_len hp;have hc:=bo_cpy (l:=List.replicate (s.size+1) false) (m:=a) (by simpa using ha);have htx:=pOk_txt hp;refine gOf s234 (by rw[ePat_eq];rfl) ?_;simp only[endsN];unfold endsF;by_cases o1:p.op=1
  ·have hl:=l234_1_ok (s:=s) (t:=p.text) (a:=a) (op:=.int .i64 1) (ks:=dPats p.kids) hs (by simp only[mg];omega) ha;rw[if_pos o1];simp only[go_sem,hw,hm,t234,ePat_eq p,o1,hl]
  rw[if_neg o1];by_cases o2:p.op=2
  ·rw[if_pos o2];have hl:=gl_gather (b:=lB G l234_2) p.kids (fun i (x:List Bool)=>(0,[.str s,.int .i64 (i:Int),.int .i64 2,.str p.text,dPats p.kids,dBools x])) (fun i=>(p.kids.take i).foldl (fun o k=>endsN s n k o) a) (0,[.str s,.int .i64 p.kids.length,.bool false,.int .i64 2,.str p.text,dPats p.kids,dBools (p.kids.foldl (fun o k=>endsN s n k o) a)]) (by
    intro i k hn;have hi:=nth_len hn;have hwi:=wj (i:=i) (n:=p.kids.length) hi (by simp only[mg];omega);have e1:=hk k (nth_in hn) _ (fold_len (f:=endsN s n) hlen (p.kids.take i) a ha);rw[ePat_eq]at e1;simp only[List.cons_append,List.nil_append]at e1;rw[foldl_snoc _ _ _ _ _ hn];simp only[go_sem,lB_,l234_2,hi,el_P hn,po_hasP];simp only[go_sem,ePat_eq k,e1,hwi]) (by
    rw[List.take_length];simp only[go_sem,lB_,l234_2,Nat.lt_irrefl]) p.kids.length 0 (by omega)
   rw[n0,List.take_zero,List.foldl_nil]at hl;simp only[go_sem,hw,hm,hc,t234,ePat_eq p,o2,hl]
  rw[if_neg o2];by_cases o3:p.op=3
  ·rw[if_pos o3];have hl:=gl_gather (b:=lB G l234_3) p.kids (fun i (x:List Bool)=>(0,[.str s,dBools a,.int .i64 (i:Int),.int .i64 3,.str p.text,dPats p.kids,dBools x])) (fun i=>(p.kids.take i).foldl (fun o k=>joinB o (endsN s n k a)) (List.replicate (s.size+1) false)) (0,[.str s,dBools a,.int .i64 p.kids.length,.bool false,.int .i64 3,.str p.text,dPats p.kids,dBools (p.kids.foldl (fun o k=>joinB o (endsN s n k a)) (List.replicate (s.size+1) false))]) (by
    intro i k hn;have hi:=nth_len hn;have hwi:=wj (i:=i) (n:=p.kids.length) hi (by simp only[mg];omega);have e1:=hk k (nth_in hn) a ha;have hfl:=foldJ_len (s:=s) (g:=fun k=>endsN s n k a) (p.kids.take i) (List.replicate (s.size+1) false) (by simp);have e2:=q233 (a:=(p.kids.take i).foldl (fun o k=>joinB o (endsN s n k a)) (List.replicate (s.size+1) false)) (b:=endsN s n k a) (by rw[hfl];omega) (by rw[hlen k a ha,hfl]);rw[ePat_eq]at e1;simp only[List.cons_append,List.nil_append]at e1;rw[foldl_snoc _ _ _ _ _ hn];simp only[go_sem,lB_,l234_3,hi,el_P hn,po_hasP];simp only[go_sem,ePat_eq k,e1,e2,hwi]) (by
    rw[List.take_length];simp only[go_sem,lB_,l234_3,Nat.lt_irrefl]) p.kids.length 0 (by omega)
   rw[n0,List.take_zero,List.foldl_nil]at hl;simp only[go_sem,hw,hm,t234,ePat_eq p,o3,hl]
  rw[if_neg o3];by_cases o4:p.op=4
  ·rw[if_pos o4];have o5:¬(4:Int)=5:=by decide
   by_cases h1:p.kids.length=1
   ·obtain⟨k,hkk⟩:=List.length_eq_one_iff.1 h1;have hs':=l234_9_ok (t:=p.text) hs (hlen k) (fun x hx=>hk k (by rw[hkk];simp) x hx) (s.size+2) a none (by have:=outs_le a;omega) ha;simp only[st234]at hs';rw[hkk,one1_1];simp only[go_sem,hw,hm,hc,t234,ePat_eq p,o4,o5,hkk,hs']
   ·rw[one1_n h1];have h2:=nth0 h1;have hl:gloop (lB G l234_9) (0,[.str s,.int .i64 4,.str p.text,dPats p.kids,dBools a])=some (1,[.str s,.bool false,.int .i64 4,.str p.text,dPats p.kids,dBools a]):=by
     refine gloop_out ?_;simp only[go_sem,lB_,l234_9,h2]
    simp only[go_sem,hw,hm,hc,t234,ePat_eq p,o4,o5,hl]
  rw[if_neg o4];by_cases o5:p.op=5
  ·rw[if_pos o5];by_cases h1:p.kids.length=1
   ·obtain⟨k,hkk⟩:=List.length_eq_one_iff.1 h1;have hs':=l234_6_ok (t:=p.text) hs (hlen k) (fun x hx=>hk k (by rw[hkk];simp) x hx) ha;rw[hkk,one1_1];simp only[go_sem,hw,hm,hc,t234,ePat_eq p,o5,hkk,hs']
   ·rw[one1_n h1];have h2:=nth0 h1;have hl:gloop (lB G l234_6) (0,[.str s,.int .i64 5,.str p.text,dPats p.kids,dBools a])=some (1,[.str s,.bool false,.int .i64 5,.str p.text,dPats p.kids,dBools a]):=by
     refine gloop_out ?_;simp only[go_sem,lB_,l234_6,h2]
    simp only[go_sem,hw,hm,hc,t234,ePat_eq p,o5,hl]
  rw[if_neg o5];simp only[go_sem,hw,hm,t234,ePat_eq p,o1,o2,o3,o4,o5]
theorem q235{s:ByteArray}{p:XPat}(hs:s.size≤mg)(hp:pOk 64 p=true):G 235 (ePat p++[.str s])=some (0,[.bool (matP p s)]):=by
 have hw:=lenw hs;have hm:=bo_make (n:=s.size+1) (by simp only[mg]at hs;omega);have h1:=q234_n hs (SizeOf.sizeOf p+1) p (true::List.replicate s.size false) (Nat.lt_succ_self _) hp (by simp);have hl:=endsN_len (s:=s) (SizeOf.sizeOf p+1) p (true::List.replicate s.size false) (by simp);rw[ePat_eq]at h1;simp only[List.cons_append,List.nil_append]at h1;have e1:=bo_chk (l:=List.replicate (s.size+1) false) (i:=0) (by simp);have e2:=bo_set (l:=List.replicate (s.size+1) false) (i:=0) (c:=true) (by simp);have e3:(List.replicate (s.size+1) false).set 0 true=true::List.replicate s.size false:=by rw[List.replicate_succ];rfl
 rw[e3]at e2;rw[n0]at e1 e2;have e4:=bo_chk (l:=endsN s (SizeOf.sizeOf p+1) p (true::List.replicate s.size false)) (i:=s.size) (by rw[hl];omega);obtain⟨b,hb⟩:∃b,nth (endsN s (SizeOf.sizeOf p+1) p (true::List.replicate s.size false)) s.size=some b:=⟨_,nth_lt (by rw[hl];omega)⟩
 have e5:=bo_eld hb;refine gOf s235 (by rw[ePat_eq];rfl) ?_;have e6:matP p s=b:=by rw[matP,hb];rfl
 rw[e6];generalize endsN s (SizeOf.sizeOf p+1) p (true::List.replicate s.size false)=z at *;simp only[go_sem,t235,ePat_eq p,hw,hm,e1,e2,h1,e4,e5]
end
section
set_option maxRecDepth 100000
set_option maxHeartbeats 4000000
theorem pCh_eq(b:Int):pCh b=(inB 97 122 b ||(inB 48 57 b ||decide (b=45))):=(rfl)
theorem ssl_one{s:ByteArray}{i:Nat}(h:i < s.size):evPO (.ssl true) [.str s,.int .i64 (i:Int),.int .i64 ((i+1:Nat):Int)]=some (.str (oneT (bAt s i))):=by
 have e1:dI (.int .i64 (i:Int))=some i:=by simp[dI]
 have e2:dI (.int .i64 ((i+1:Nat):Int))=some (i+1):=by simp only[dI];rw[if_pos (by omega)];congr 1
 simp only[evPO,e1,e2];rw[if_pos ⟨by omega,by omega⟩]
 congr 2
 have hb:(bAt s i).toNat=(s[i]?.getD 0).toNat:=by unfold bAt;simp
 have hb2:UInt8.ofNat (bAt s i).toNat=s[i]:=by
  rw[hb,getElem?_pos s i h,Option.getD_some];simp
 apply ByteArray.ext
 have e3:(oneT (bAt s i)).data=#[s[i]]:=by simp only[oneT,bA,hb2]
 rw[e3,ByteArray.data_extract]
 apply Array.ext
 ·simp;omega
 ·intro j h1 h2;have:j=0:=by simpa using h2
  subst this;simp
  rfl
theorem sub1(k:Nat)(h:k≤mg):IntKind.i64.wrap (((k+1:Nat):Int) - 1)=(k:Int):=by rw[wrap_i64 (by simp only[mg]at h;omega)];omega
def RdA(f:Nat)(s:ByteArray)(i c n:Nat)(b0:Bool)(r:PR):Prop:=∃j p k b,j < n∧G f [.str s,.int .i64 (i:Int),.bool b0]=some (j,ePat p++[.str s,.int .i64 (k:Int),.bool b])∧PA s i c r p k b
section
variable {s:ByteArray} {alt:Nat→PR}
theorem pl2(a:Int)(t:ByteArray):evPO .pl [.int .i64 a,.str t]=some (.bool false):=(rfl)
theorem npl3(a:Int)(t:ByteArray)(l:List XPat):evPO .npl [.int .i64 a,.str t,dPats l]=some (.bool false):=(rfl)
theorem PA_w{i i' c c' k:Nat}{r:PR}{p:XPat}{b:Bool}(h:PA s i' c' r p k b)(hi:i≤i')(hc:i+c≤i'+c'):PA s i c r p k b:=by
 obtain⟨h1,h2,h3,h4⟩:=h;refine⟨h1,by omega,h3,?_⟩;cases r with
 |none=>exact h4
 |some q=>exact⟨h4.1,h4.2.1,by have:=h4.2.2;omega⟩
theorem q222(hs:s.size≤mg){i:Nat}(hi:i < s.size)(hA:∀j,i < j→j≤s.size→RdA 223 s j 0 2 false (alt j)):RdA 222 s i 1 3 false (pAtom alt s i):=by
 have hw:=wj hi hs;unfold pAtom;cases h40:isAt s i 40 with
 |true=>
  have f1:=q216_t hs h40;obtain⟨j,p,k,b,hj,hg,hp⟩:=hA (i+1) (by omega) (by omega);obtain⟨p1,p2,p3,p4⟩:=hp;simp only[ePat_eq,List.cons_append,List.nil_append]at hg;rw[if_pos rfl];cases b with
  |true=>
   have f2:=fun c=>q216_b (s:=s) (i:=(k:Int)) (c:=c);cases hr:alt (i+1) with
   |some q=>rw[hr]at p4;cases p4.1
   |none=>
    match j,hj with
    |0,_=>exact⟨1,p,k,true,by decide,gOf s222 rfl (by simp only[go_sem,t222,f1,f2,hg,ePat_eq]),p1,by omega,p3,rfl⟩
    |1,_=>exact⟨2,p,k,true,by decide,gOf s222 rfl (by simp only[go_sem,t222,f1,f2,hg,ePat_eq]),p1,by omega,p3,rfl⟩
  |false=>
   cases hr:alt (i+1) with
   |none=>rw[hr]at p4;cases p4
   |some q=>
    rw[hr]at p4;obtain⟨_,rfl,p5⟩:=p4;dsimp only;cases h41:isAt s k 41 with
    |true=>
     have f2:=q216_t hs h41;have hk:=isAt_lt h41
     match j,hj with
     |0,_=>exact⟨1,p,k+1,false,by decide,gOf s222 rfl (by simp only[go_sem,t222,f1,f2,hg,ePat_eq]),p1,by omega,by omega,rfl,rfl,by omega⟩
     |1,_=>exact⟨2,p,k+1,false,by decide,gOf s222 rfl (by simp only[go_sem,t222,f1,f2,hg,ePat_eq]),p1,by omega,by omega,rfl,rfl,by omega⟩
    |false=>
     have f2:=q216_f h41
     match j,hj with
     |0,_=>exact⟨1,p,k,true,by decide,gOf s222 rfl (by simp only[go_sem,t222,f1,f2,hg,ePat_eq]),p1,by omega,p3,rfl⟩
     |1,_=>exact⟨2,p,k,true,by decide,gOf s222 rfl (by simp only[go_sem,t222,f1,f2,hg,ePat_eq]),p1,by omega,p3,rfl⟩
 |false=>
  have f1:=q216_f h40;rw[if_neg Bool.false_ne_true];cases h91:isAt s i 91 with
  |true=>
   have f2:=q216_t hs h91;obtain⟨p,k,b,hg,hp⟩:=q220 (i:=i+1) hs (by omega);simp only[ePat_eq,List.cons_append,List.nil_append]at hg;rw[if_pos rfl];exact⟨0,p,k,b,by decide,gOf s222 rfl (by simp only[go_sem,t222,f1,f2,hg,ePat_eq]),PA_w hp (by omega) (by omega)⟩
  |false=>
   have f2:=q216_f h91;rw[if_neg Bool.false_ne_true];cases h46:isAt s i 46 with
   |true=>
    have f3:=q216_t hs h46;have f4:=q221;rw[if_pos rfl];exact⟨0,⟨1,anyT,[]⟩,i+1,false,by decide,gOf s222 rfl (by simp only[go_sem,t222,f1,f2,f3,f4,ePat_eq];rfl),pOk_leaf _ _ (bsT_sz _),by omega,by omega,rfl,rfl,by omega⟩
   |false=>
    have f3:=q216_f h46;have f4:=po_six s i hi;have f5:=q217 (bAt_bd s i);have f6:=q218 (bAt_bd s i);have f7:=ssl_one hi;have f8:=sub1 i (by omega);rw[if_neg Bool.false_ne_true];cases hc:pCh (bAt s i) with
    |true=>
     simp only[hi,decide_true,Bool.and_self,if_true];refine⟨0,⟨1,oneT (bAt s i),[]⟩,i+1,false,by decide,gOf s222 rfl ?_,pOk_leaf _ _ (by rw[oneT,bA_size];simp),by omega,by omega,rfl,rfl,by omega⟩;rw[pCh_eq]at hc;generalize inB 97 122 (bAt s i)=x at *;generalize inB 48 57 (bAt s i)=y at *;cases x<;>cases y<;>(try simp only[Bool.false_or]at hc)<;>simp only[go_sem,t222,hi,hc,f1,f2,f3,f4,f5,f6,f7,f8,hw,ePat_eq]
     all_goals rfl
    |false=>
     simp only[Bool.and_false,Bool.false_eq_true,if_false];refine⟨0,⟨0,eT,[]⟩,i,true,by decide,gOf s222 rfl ?_,pOk_leaf _ _ eT_sz,by omega,by omega,rfl⟩;rw[pCh_eq]at hc;generalize inB 97 122 (bAt s i)=x at *;generalize inB 48 57 (bAt s i)=y at *;cases x<;>cases y<;>simp only[Bool.true_or,Bool.or_true,Bool.false_or,Bool.true_eq_false]at hc
     simp only[go_sem,t222,hi,hc,f1,f2,f3,f4,f5,f6,ePat_eq];rfl
end
end
end Go.Proofs.YtcdjbelccndadaaGreatDoor
