/-
  Each of the machine's operations that make or write memory. No program is named here.
-/
import Derived.Test.YtmaigpiappmpcaaKNoisy
namespace Go.Proofs.Ytmaigpiappmpcaa
set_option linter.unusedVariables false
set_option linter.unusedSimpArgs false
open Go.RowKit

theorem kills_const {b : Nat} : ∀ {zs : List C}, zs.all C.const = true → C.kills b zs = zs
  | [], _ => by simp [C.kills]
  | z :: zs, h => by
    simp only [List.all_cons, Bool.and_eq_true] at h
    have ih := kills_const (b := b) h.2
    have hz := h.1
    cases z <;> simp_all [C.kills, C.kill, C.const]

/-- zero cells as data -/
def okZD : Value → D → Bool
  | .int k n, .int k' n' => k == k' && n == n' && k.wrap n == n
  | .bool b, .bool b' => b == b'
  | .string s, .str s' => s.data.toList == s'.data.toList && Nat.ble s.size maxLen
  | .slice none 0 0, .list k _ [] => Nat.blt 0 k
  | _, _ => false
def okZDs : List Value → List D → Bool
  | [], [] => true
  | v :: vs, c :: cs => okZD v c && okZDs vs cs
  | _, _ => false
theorem okZDs_rel {w : World} : ∀ (vs : List Value) (ds : List D), okZDs vs ds = true → RpC w ds vs []
  | [], [], _ => by simp [RpC]
  | [], _ :: _, h => by simp [okZDs] at h
  | _ :: _, [], h => by simp [okZDs] at h
  | v :: vs, d :: ds, h => by
    simp only [okZDs, Bool.and_eq_true] at h
    simp only [RpC]
    refine ⟨v, vs, [], [], rfl, rfl, ?_, okZDs_rel vs ds h.2⟩
    have ok := h.1
    unfold okZD at ok
    split at ok
    · simp only [Bool.and_eq_true, beq_iff_eq] at ok
      obtain ⟨⟨rfl, rfl⟩, hw⟩ := ok
      simp [Rp, hw]
    · simp only [beq_iff_eq] at ok
      subst ok
      simp [Rp]
    · simp only [Bool.and_eq_true, beq_iff_eq, Nat.ble_eq] at ok
      obtain ⟨he, hw⟩ := ok
      rw [str_ext he] at hw ⊢
      simp [Rp, hw]
    · simp only [Nat.blt_eq] at ok
      simp only [Rp]
      exact ⟨none, 0, 0, rfl, rfl, Nat.le_refl _, by simp [maxLen], fun _ => flat_nil, ok, fun _ h => by simp at h, .inl ⟨rfl, trivial⟩⟩
    · cases ok

section
variable {P : Program} {γ : Gh} {h0 : Nat → Nat} {io : List Nat} {w0 : World} {s s' : St} {f : Fm} {w : World} {N : Nat} {ty : TypeId} {pos : String} {aft : Array Edge} {gd : Option (Nat × Bool)} {K : Fm → World → Prop}
  {cf : Nat → List A → Option (List A × List A)} {mf : Nat → Bool → List D → Int → Option (List D × Int)}

theorem zero_run {T : TypeId} {z : List Value} (h : zeroB P T = some z) : ∃ z0 : Value, z0.cells.toList = z ∧ ∀ w, (zeroValue T).run P w = .ok z0 w := by
  unfold zeroB at h
  cases hi : P.info? T with
  | none => rw [hi] at h; simp at h
  | some i =>
    rw [hi] at h
    cases hz : i.zero with
    | none => simp [hz] at h
    | some z0 =>
      simp [hz] at h
      exact ⟨z0, h, fun w => by simp [zeroValue, typeInfo, hi, hz]⟩

theorem n_alloc (hi : Inv γ h0 io w0 s f w) {T : TypeId} {z : List Value} {zs : List C} {b : Nat} (hz : zeroB P T = some z) (hzs : okZs z zs = true) (he : evN cf mf s (some b) (.alloc zs) = some s')
    (h : ∀ γ' f' w', Inv γ' h0 io w0 s' f' w' → Tr (some b) [b] γ w γ' w' f f' → K f' w') : Op1 P N ⟨some b, .alloc T, ty, pos, aft, gd⟩ f w K := by
  simp only [evN] at he
  split at he
  · rename_i hc
    simp only [Option.some.injEq] at he
    subst he
    obtain ⟨z0, hz0, hrun⟩ := zero_run hz
    have hrun : (execOp (fr f N).eval ⟨some b, .alloc T, ty, pos, aft, gd⟩).run P w = .ok (.value (.pointer (some ⟨w.heap.size, 0, none⟩))) (w.alloc (.cells z.toArray T)) := by
      simp [execOp, Instr.alloc, hrun, newVar, newRow, newObj, Sem.run, ← hz0]
    refine o_new hrun fun w1 hs hk hB => ?_
    have h1 := hi.bel hk
    obtain ⟨γ', h2, h3, h4, h5, _, _⟩ := h1.addBox (b := b) hB (.inl (hi.ω_new (Nat.le_refl _))) (.inl hi.size) (hi.hnew _ (Nat.le_refl _)) (okZs_rel z zs hzs)
    rw [kills_const hc] at h2
    refine h γ' _ w1 (h2.put b (.ptr b 0) _ (by simp only [CR, h3])) ⟨adv_bel hi hk _, fun x hx => h4 x (fun e => hx (by rw [e])), fun g => by rw [h5]; exact Nat.le_refl _, .put⟩
  · cases he

theorem n_box (hi : Inv γ h0 io w0 s f w) {T : TypeId} {x : Operand} {y : KX} {b : Nat} (hx : okX N x y = true) (he : evN cf mf s (some b) (.box y) = some s')
    (h : ∀ γ' f' w', Inv γ' h0 io w0 s' f' w' → Tr (some b) [b] γ w γ' w' f f' → K f' w') : Op1 P N ⟨some b, .box T x, ty, pos, aft, gd⟩ f w K := by
  simp only [evN] at he
  split at he
  · rename_i hc
    simp only [Option.some.injEq] at he
    subst he
    obtain ⟨hcs, _, _⟩ := (evX_rel hi hx).cells hc
    have hrun : (execOp (fr f N).eval ⟨some b, .box T x, ty, pos, aft, gd⟩).run P w = .ok (.value (.pointer (some ⟨w.heap.size, 0, none⟩))) (w.alloc (.cells ((fr f N).eval x).cells.toList.toArray T)) := by
      simp [execOp, Instr.box, newVar, newRow, newObj, Sem.run]
    refine o_new hrun fun w1 hs hk hB => ?_
    have h1 := hi.bel hk
    have hcs1 : CRs γ w1 (evX s y).cells ((fr f N).eval x).cells.toList := hcs.mono (γ' := γ) (fun _ => Nat.le_refl _) (adv_bel hi hk (fun _ => False)).cell rfl rfl _
    obtain ⟨γ', h2, h3, h4, h5, _, _⟩ := h1.addBox (b := b) hB (.inl (hi.ω_new (Nat.le_refl _))) (.inl hi.size) (hi.hnew _ (Nat.le_refl _)) hcs1
    refine h γ' _ w1 (h2.put b (.ptr b 0) _ (by simp only [CR, h3])) ⟨adv_bel hi hk _, fun x hx => h4 x (fun e => hx (by rw [e])), fun g => by rw [h5]; exact Nat.le_refl _, .put⟩
  · cases he

theorem RpE.bel {w w1 : World} {es : List (List D)} {vs : List Value} {G : Fp} (h : RpE w es vs G) (hk : Bel w.heap.size w w1) : RpE w1 es vs G :=
  h.keep es fun be hb j _ => World.cell?_of_block (w := w) (hk.block _ (RpE.lt es h be hb))

/-- a row in a new block -/
theorem Inv.newRow (hi : Inv γ h0 io w0 s f w) {γ0 : Gh} {w1 : World} (hk : Bel w.heap.size w w1) {T : TypeId} {us : List Value} (hB : Blk w1 w.heap.size T us) {es : List (List D)} {xs : List Value} {k : Nat} {fl dp : Bool} {G : Fp} {n c : Nat} (hs : w1.heap.size = w.heap.size + 1)
    (hr : RpE w es xs G) (hx : us.take (n * k) = xs) (hn : n = es.length) (hnc : n ≤ c) (hc : c ≤ maxLen) (hl : us.length = c * k) (hk0 : 0 < k) (hek : ∀ e ∈ es, e.length = k) (hfl : fl = true → flat es) (he : Emb γ0 w dp G γ) (r : Nat) :
    ∃ γ', Inv γ' h0 io w0 (s.newRow r ⟨es, k, fl, dp, true, false⟩) f w1 ∧ γ'.sl r = .slice (some ⟨w.heap.size, 0, none⟩) n c ∧ γ'.β = γ.β ∧ (∀ g, γ.h g ≤ γ'.h g) := by
  have hlx : Lies w1 w.heap.size 0 xs := by
    intro j u hu
    rw [Nat.zero_add, hB.cell]
    rw [← hx, List.getElem?_take] at hu
    split at hu
    · exact hu
    · cases hu
  cases dp with
  | true =>
    obtain ⟨hnd, hlim⟩ := he.deep rfl
    have h1 := hi.bel hk
    have hR : RowR γ.h w1 ⟨es, k, fl, true, true, false⟩ (.slice (some ⟨w.heap.size, 0, none⟩) n c) (w.heap.size :: G.map Prod.fst) := by
      refine ⟨_, n, c, rfl, hn, hnc, hc, hk0, hek, hfl, .inr ⟨w.heap.size, 0, xs, G, rfl, by omega, hk.thaw _ (Nat.le_refl _), hr.bel hk, hlx, by rw [hi.hnew _ (Nat.le_refl _)]; omega, fun _ => hi.hnew _ (Nat.le_refl _), fun _ => ⟨rfl, T, us, hB, hl⟩, fun _ => ⟨rfl, fun be hb => ⟨(hlim be hb).1.2.1, (adv_bel hi hk (fun _ => False)).kthaw _ (hlim be hb).1.2.2⟩⟩, fun h => by cases h⟩⟩
    have hlt := RpE.lt es hr
    obtain ⟨γ', h2, h3, h4, h5, _⟩ := h1.addRow (r := r) hR (List.nodup_cons.2 ⟨fun hm => by
        obtain ⟨be, hb, e⟩ := List.mem_map.1 hm
        have := hlt be hb
        omega, hnd⟩) (fun g hg => by
        rcases List.mem_cons.1 hg with rfl | hg
        · exact ⟨.inl (hi.ω_new (Nat.le_refl _)), by omega, .inl hi.size⟩
        · obtain ⟨be, hb, rfl⟩ := List.mem_map.1 hg
          have hl := (hlim be hb).1.1
          exact ⟨.inr (.inl hl), by have := hlt be hb; omega, (hi.own _ (by rw [hl]; simp)).2⟩)
    exact ⟨γ', h2, h3, h4, fun g => by rw [h5]; exact Nat.le_refl _⟩
  | false =>
    obtain ⟨γ2, i2, b2, s2, m2, set2, fr2, k2⟩ := hi.settleG G he.some_
    have h1 := i2.bel hk
    have hR : RowR γ2.h w1 ⟨es, k, fl, false, true, false⟩ (.slice (some ⟨w.heap.size, 0, none⟩) n c) [w.heap.size] := by
      refine ⟨_, n, c, rfl, hn, hnc, hc, hk0, hek, hfl, .inr ⟨w.heap.size, 0, xs, G, rfl, by omega, hk.thaw _ (Nat.le_refl _), hr.bel hk, hlx, by rw [i2.hnew _ (Nat.le_refl _)]; omega, fun _ => i2.hnew _ (Nat.le_refl _), fun _ => ⟨rfl, T, us, hB, hl⟩, (fun h => by cases h), fun _ => ⟨rfl, set2⟩⟩⟩
    obtain ⟨γ', h2, h3, h4, h5, _⟩ := h1.addRow (r := r) hR (by simp) (fun g hg => by
        simp only [List.mem_singleton] at hg
        subst hg
        exact ⟨.inl (i2.ω_new (Nat.le_refl _)), by omega, .inl hi.size⟩)
    exact ⟨γ', h2, h3, h4.trans b2, fun g => by rw [h5]; exact m2 g⟩

/-! ### slice literals -/
def okSeq (N : Nat) : Nat → List (Nat × Operand) → List KX → Bool
  | _, [], [] => true
  | j, (i, x) :: ps, y :: ys => i == j && okX N x y && okSeq N (j + 1) ps ys
  | _, _, _ => false
theorem okSeq_rel (hi : Inv γ h0 io w0 s f w) : ∀ (j : Nat) (ps : List (Nat × Operand)) (ys : List KX), okSeq N j ps ys = true →
    CRs γ w (ys.map (evX s)) (ps.map fun p => (fr f N).eval p.2) ∧ ps.map Prod.fst = List.range' j ps.length ∧ ps.length = ys.length
  | _, [], [], _ => by simp [CRs]
  | _, [], _ :: _, h => by simp [okSeq] at h
  | _, _ :: _, [], h => by simp [okSeq] at h
  | j, (i, x) :: ps, y :: ys, h => by
    simp only [okSeq, Bool.and_eq_true, beq_iff_eq] at h
    obtain ⟨⟨rfl, h2⟩, h3⟩ := h
    obtain ⟨h4, h5, h6⟩ := okSeq_rel hi (i + 1) ps ys h3
    refine ⟨?_, by simp [List.range', h5], by simp [h6]⟩
    simp only [List.map_cons, CRs]
    exact ⟨_, _, rfl, evX_rel hi h2, h4⟩
theorem fill_seq {k : Nat} : ∀ (vs : List (Nat × Value)) (j : Nat) (pre A : List Value), pre.length = j * k → vs.map Prod.fst = List.range' j vs.length → (∀ v ∈ vs, v.2.cells.size = k) → A.length = vs.length * k →
    Instr.fill (fun i => some (i * k, k)) (pre ++ A).toArray vs = some (pre ++ vs.flatMap fun v => v.2.cells.toList).toArray
  | [], j, pre, A, _, _, _, hA => by
    have : A = [] := List.eq_nil_of_length_eq_zero (by simpa using hA)
    simp [Instr.fill, this]
  | (i, v) :: vs, j, pre, A, hp, hf, hs, hA => by
    simp only [List.map_cons, List.length_cons, List.range', List.cons.injEq] at hf
    obtain ⟨rfl, hf⟩ := hf
    have hv := hs (i, v) (by simp)
    simp only at hv
    simp only [List.length_cons, Nat.succ_mul] at hA
    simp only [Instr.fill, List.size_toArray, List.length_append, hp, hA, hv]
    rw [if_neg (by simp)]
    have e : v.cells.zipIdx.foldl (fun cs (c, j) => cs.setIfInBounds (i * k + j) c) (pre ++ A).toArray = ((pre ++ v.cells.toList) ++ A.drop k).toArray := by
      have h1 := put_at' (i * k) v.cells.toList (pre ++ A).toArray (by simp [hp, hA, hv])
      simp only [Array.toArray_toList] at h1
      rw [h1]
      congr 1
      have t1 : (pre ++ A).take (i * k) = pre := by rw [← hp]; exact List.take_left
      have t2 : (pre ++ A).drop (i * k + k) = A.drop k := by
        rw [List.drop_append, List.drop_of_length_le (by omega), hp, Nat.add_sub_cancel_left, List.nil_append]
      unfold splice
      simp only [Array.length_toList, hv, t1, t2]
    rw [e]
    have ih := fill_seq vs (i + 1) (pre ++ v.cells.toList) (A.drop k) (by simp [hp, hv, Nat.succ_mul]) hf (fun u hu => hs u (by simp [hu])) (by simp [hA])
    rw [ih]
    simp

theorem n_mkrow (hi : Inv γ h0 io w0 s f w) {T E : TypeId} {n k : Nat} {fl : Bool} {ps : Array (Nat × Operand)} {ys : List KX} {r : Nat} (hU : P.underlying T = some (.slice E)) (hS : sizeB P E = some k) (hz : n = 0 ∨ (zeroB P E).isSome = true) (hps : okSeq N 0 ps.toList ys = true) (hn : n = ps.size) (hm : Nat.ble (n * k) 16777216 = true)
    (he : evN cf mf s (some r) (.mkrow k fl ys) = some s') (h : ∀ γ' f' w', Inv γ' h0 io w0 s' f' w' → Tr (some r) (r :: rowsAll (ys.map (evX s))) γ w γ' w' f f' → K f' w') : Op1 P N ⟨some r, .buildSlice T n ps, ty, pos, aft, gd⟩ f w K := by
  simp only [evN] at he
  split at he
  · rename_i es dp s1 hem
    split at he
    · rename_i hk0
      simp only [Option.some.injEq] at he
      subst he
      obtain ⟨hcr, hidx, hlen⟩ := okSeq_rel hi 0 _ _ hps
      obtain ⟨γ1, G, i1, r1, e1, l1, k1, f1, z1⟩ := embs_rel _ hi hcr hem
      have hsz : (ps.toList.map fun p => (fr f N).eval p.2).flatMap (fun v => v.cells.toList) = (ps.toList.map fun p => (p.1, (fr f N).eval p.2)).flatMap fun v => v.2.cells.toList := by
        simp [List.flatMap_map]
      have hnl : n = es.length := by rw [l1, List.length_map, ← hlen, hn, Array.length_toList]
      have hxl : ((ps.toList.map fun p => (fr f N).eval p.2).flatMap fun v => v.cells.toList).length = n * k := by rw [RpE.length es r1 k1, hnl]
      have hm' : n * k ≤ 16777216 := by simpa using hm
      have hrun : (execOp (fr f N).eval ⟨some r, .buildSlice T n ps, ty, pos, aft, gd⟩).run P w = .ok (.value (.slice (some ⟨w.heap.size, 0, none⟩) n n)) (w.alloc (.cells ((ps.toList.map fun p => (fr f N).eval p.2).flatMap fun v => v.cells.toList).toArray E)) := by
        have h24 : ¬ (n * k > 2 ^ 24) := by omega
        have hfill : ∀ A : Array Value, A.size = n * k → Instr.fill (fun i => some (i * k, k)) A (ps.toList.map fun p => (p.1, (fr f N).eval p.2)) = some ((ps.toList.map fun p => (fr f N).eval p.2).flatMap fun v => v.cells.toList).toArray := by
          intro A hA
          have h1 := fill_seq (k := k) (ps.toList.map fun p => (p.1, (fr f N).eval p.2)) 0 [] A.toList (by simp) (by rw [List.map_map, List.length_map]; exact hidx) (by
            intro v hv
            obtain ⟨p, hp, rfl⟩ := List.mem_map.1 hv
            exact z1 _ (List.mem_map_of_mem hp)) (by simp [hA, hn])
          rw [hsz]
          simpa using h1
        have hf2 := fun zc : Array Value => hfill ((Array.range (n * k)).map (zc[· % zc.size]!)) (by simp)
        by_cases hn0 : n * k = 0
        · have h3 := hf2 #[]
          simp only [execOp, Instr.buildSlice, Sem.run_bind, run_underlying hU, Result.andThen_ok, run_sizeOf hS, if_neg h24, if_pos hn0, Sem.run_pure]
          simp only [Array.toList_map] at h3 ⊢
          rw [h3]
          simp [newRow, newObj, Sem.run]
        · have hzz : (zeroB P E).isSome = true := by
            rcases hz with hz | hz
            · subst hz; simp at hn0
            · exact hz
          obtain ⟨zl, hzl⟩ := Option.isSome_iff_exists.1 hzz
          obtain ⟨z0, _, hzr⟩ := zero_run hzl
          have h3 := hf2 z0.cells
          simp only [execOp, Instr.buildSlice, Sem.run_bind, run_underlying hU, Result.andThen_ok, run_sizeOf hS, if_neg h24, if_neg hn0, hzr, Sem.run_pure]
          simp only [Array.toList_map] at h3 ⊢
          rw [h3]
          simp [newRow, newObj, Sem.run]
      refine o_new hrun fun w1 hs hk hB => ?_
      obtain ⟨γ', h2, h3, h4, h5⟩ := i1.newRow hk hB (n := n) (c := n) hs r1 (by rw [← hxl, List.take_length]) hnl (Nat.le_refl _) (by simp [maxLen]; have : n ≤ n * k := Nat.le_mul_of_pos_right n hk0; omega) hxl hk0 k1 f1 e1 r
      refine h γ' _ w1 (h2.put r (.ref r) _ (by simp only [CR, h3]; exact ⟨trivial, _, _, _, rfl⟩)) ⟨adv_bel hi hk _, fun x _ => by rw [h4, e1.β], fun g => Nat.le_trans (e1.h g) (h5 g), .put⟩
    · cases he
  · cases he
end
end Go.Proofs.Ytmaigpiappmpcaa
