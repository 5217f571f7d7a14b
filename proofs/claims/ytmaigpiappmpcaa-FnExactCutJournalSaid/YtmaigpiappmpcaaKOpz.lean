/-
  Each of the machine's operations that make or write memory: make, stores, append. No program is named here.
-/
import Derived.Test.YtmaigpiappmpcaaKOps
namespace Go.Proofs.Ytmaigpiappmpcaa
set_option linter.unusedVariables false
set_option linter.unusedSimpArgs false
open Go.RowKit

section
variable {γ : Gh} {h0 : Nat → Nat} {io : List Nat} {w0 : World} {s s' : St} {f : Fm} {w : World}

/-- the row at r is opened: its blocks are in nobody's hands -/
theorem Inv.openRow (hi : Inv γ h0 io w0 s f w) {r : Nat} {x : Row} (hl : look s.rw r = some x) :
    ∃ γ' A n c, Inv γ' h0 io w0 (s.dropRow r) f w ∧ γ'.β = γ.β ∧ γ'.sl = γ.sl ∧ γ'.h = γ.h ∧ (∀ g, γ.ω g ≠ .row r → γ'.ω g = γ.ω g) ∧ (∀ g, γ.ω g = .row r → γ'.ω g = .lim) ∧
      γ.sl r = .slice A n c ∧ n = x.es.length ∧ n ≤ c ∧ c ≤ maxLen ∧ 0 < x.k ∧ (∀ e ∈ x.es, e.length = x.k) ∧ (x.fl = true → flat x.es) ∧
      ((A = none ∧ c = 0) ∨ ∃ g o xs G, A = some ⟨g, o, none⟩ ∧ g < w.heap.size ∧ γ.ω g = .row r ∧ γ'.ω g = .lim ∧ Thaw w g ∧ RpE w x.es xs G ∧ Lies w g o xs ∧ γ.h g ≤ o + n * x.k ∧ (x.fz = false → γ.h g = 0) ∧
        (x.app = true → o = 0 ∧ ∃ T vs, Blk w g T vs ∧ vs.length = c * x.k) ∧ (∀ be ∈ G, be.2 ≤ γ.h be.1 ∨ (Lim γ' w be.1 ∧ be.1 ≠ g)) ∧ (x.deep = true → (g :: G.map Prod.fst).Nodup ∧ ∀ be ∈ G, Lim γ' w be.1 ∧ γ.ω be.1 = .row r)) := by
  obtain ⟨F, hR, hnd, hω⟩ := hi.rw r x hl
  obtain ⟨A, n, c, q1, q2, q3, q4, q5, q6, q7, q8⟩ := hR
  have hdr := hi.dropRow r
  have nolive : ∀ g, γ.ω g = .row r → (∀ b cs, look (s.dropRow r).bx b = some cs → γ.ω g ≠ .box b) ∧ ∀ q y, look (s.dropRow r).rw q = some y → γ.ω g ≠ .row q := by
    intro g hg
    refine ⟨fun b cs _ => by rw [hg]; simp, fun q y hq => ?_⟩
    rw [hg]
    simp only [St.dropRow, look_drp] at hq
    split at hq
    · cases hq
    · rename_i hne; intro e; cases e; exact hne rfl
  have hs := hdr.settle (h' := γ.h) (ω' := fun y => if γ.ω y = .row r then .lim else γ.ω y) (fun _ => Nat.le_refl _) (fun g hg => absurd rfl hg)
    (fun y => by
      by_cases hy : γ.ω y = .row r
      · exact .inr ⟨.inr (by simp [hy]), by rw [hy]; simp, nolive y hy⟩
      · exact .inl (by simp [hy]))
    (fun y b hy => by
      by_cases hy' : γ.ω y = .row r
      · simp [hy'] at hy
      · simp only [if_neg hy'] at hy; exact hi.hbox y b hy)
  refine ⟨_, A, n, c, hs, rfl, rfl, rfl, fun g hg => by simp [hg], fun g hg => by simp [hg], q1, q2, q3, q4, q5, q6, q7, ?_⟩
  rcases q8 with ⟨rfl, rfl, rfl⟩ | ⟨g, o, xs, G, rfl, a2, a3, a4, a5, a6, a7, a8, a9, a10⟩
  · exact .inl ⟨rfl, rfl⟩
  · have hgω : γ.ω g = .row r := by
      cases hd : x.deep with
      | true => exact hω g (by rw [(a9 hd).1]; simp)
      | false => exact hω g (by rw [(a10 hd).1]; simp)
    have hlim : x.deep = true → ∀ be ∈ G, Lim { γ with h := γ.h, ω := fun y => if γ.ω y = .row r then .lim else γ.ω y } w be.1 ∧ γ.ω be.1 = .row r := fun hd be hb => by
      have hm : γ.ω be.1 = .row r := hω _ (by rw [(a9 hd).1]; simp; exact .inr ⟨be.2, hb⟩)
      exact ⟨⟨by simp [hm], ((a9 hd).2 be hb).1, ((a9 hd).2 be hb).2⟩, hm⟩
    refine .inr ⟨g, o, xs, G, rfl, a2, hgω, by simp [hgω], a3, a4, a5, a6, a7, a8, fun be hb => ?_, fun hd => ⟨by rw [← (a9 hd).1]; exact hnd, hlim hd⟩⟩
    cases hd : x.deep with
    | true =>
      refine .inr ⟨(hlim hd be hb).1, fun e => ?_⟩
      rw [(a9 hd).1] at hnd
      exact (List.nodup_cons.1 hnd).1 (by rw [← e]; exact List.mem_map_of_mem hb)
    | false => exact .inl ((a10 hd).2 be hb)

/-- a row is closed: a block that is in nobody's hands, and what its elements hold -/
theorem Inv.closeCore (hi : Inv γ h0 io w0 s f w) {r : Nat} {x : Row} {n c g o : Nat} {xs : List Value} {G : Fp} (hn : n = x.es.length) (hnc : n ≤ c) (hc : c ≤ maxLen) (hk0 : 0 < x.k) (hek : ∀ e ∈ x.es, e.length = x.k) (hfl : x.fl = true → flat x.es)
    (hg : g < w.heap.size) (hω : γ.ω g = .lim ∨ γ.ω g = .free) (hio : w0.heap.size ≤ g ∨ g ∈ io) (hth : Thaw w g) (hr : RpE w x.es xs G) (hl : Lies w g o xs) (hh : γ.h g ≤ o + n * x.k) (hfz : x.fz = false → γ.h g = 0) (happ : x.app = true → o = 0 ∧ ∃ T vs, Blk w g T vs ∧ vs.length = c * x.k)
    (hsome : ∀ be ∈ G, be.2 ≤ γ.h be.1 ∨ (Lim γ w be.1 ∧ be.1 ≠ g)) (hdeep : x.deep = true → (g :: G.map Prod.fst).Nodup ∧ ∀ be ∈ G, Lim γ w be.1) :
    ∃ γ' F, Inv γ' h0 io w0 s f w ∧ γ'.β = γ.β ∧ γ'.sl = γ.sl ∧ (∀ y, γ.h y ≤ γ'.h y) ∧ RowR γ'.h w x (.slice (some ⟨g, o, none⟩) n c) F ∧ F.Nodup ∧ (∀ y ∈ F, (γ'.ω y = .free ∨ γ'.ω y = .lim ∨ γ'.ω y = .row r) ∧ y < w.heap.size ∧ (w0.heap.size ≤ y ∨ y ∈ io)) ∧ (x.deep = false → Settled γ'.h G) ∧ (∀ y, γ'.ω y = γ.ω y ∨ γ'.ω y = .free) := by
  cases hd : x.deep with
  | true =>
    obtain ⟨hnd, hlim⟩ := hdeep hd
    have hR : RowR γ.h w x (.slice (some ⟨g, o, none⟩) n c) (g :: G.map Prod.fst) := by
      refine ⟨_, n, c, rfl, hn, hnc, hc, hk0, hek, hfl, .inr ⟨g, o, xs, G, rfl, hg, hth, hr, hl, hh, hfz, happ, fun _ => ⟨rfl, fun be hb => (hlim be hb).2⟩, fun h => by rw [hd] at h; cases h⟩⟩
    have hlt := RpE.lt _ hr
    exact ⟨γ, _, hi, rfl, rfl, fun _ => Nat.le_refl _, hR, hnd, fun y hy => by
        rcases List.mem_cons.1 hy with rfl | hy
        · exact ⟨by rcases hω with h | h <;> simp [h], hg, hio⟩
        · obtain ⟨be, hb, rfl⟩ := List.mem_map.1 hy
          have hl := (hlim be hb).1
          exact ⟨.inr (.inl hl), hlt be hb, (hi.own _ (by rw [hl]; simp)).2⟩, (fun h => by cases h), fun _ => .inl rfl⟩
  | false =>
    -- settle what is in nobody's hands, but not g itself
    have mx : ∀ (l : List Nat) (a b : Nat), (b = a ∨ b ∈ l) → b ≤ l.foldl max a := by
      intro l
      induction l with
      | nil => intro a b hb; simp at hb; simp [hb]
      | cons z l ih =>
        intro a b hb
        simp only [List.foldl_cons]
        have h1 := ih (max a z) (max a z) (.inl rfl)
        rcases hb with rfl | hb
        · omega
        · rcases List.mem_cons.1 hb with rfl | hb
          · omega
          · exact ih _ _ (.inr hb)
    have hs := hi.settle (h' := fun y => if γ.ω y = .lim ∧ y ≠ g then γ.h y + (G.map Prod.snd).foldl max 0 else γ.h y) (ω' := fun y => if γ.ω y = .lim ∧ y ≠ g then .free else γ.ω y) (fun y => by split <;> omega)
      (fun y hy => by
        have hl : γ.ω y = .lim := by
          rcases Decidable.em (γ.ω y = .lim ∧ y ≠ g) with h | h
          · exact h.1
          · exact absurd (by rw [if_neg h]) hy
        have ho := hi.own y (by rw [hl]; simp)
        exact ⟨ho.1, ho.2, fun _ _ _ => by rw [hl]; simp, fun _ _ _ => by rw [hl]; simp⟩)
      (fun y => by
        by_cases hl : γ.ω y = .lim ∧ y ≠ g
        · exact .inr ⟨.inl (by rw [if_pos hl]), by rw [hl.1]; simp, fun _ _ _ => by rw [hl.1]; simp, fun _ _ _ => by rw [hl.1]; simp⟩
        · exact .inl (by rw [if_neg hl]))
      (fun y b hy => by
        by_cases hl : γ.ω y = .lim ∧ y ≠ g
        · rw [if_pos hl] at hy; cases hy
        · rw [if_neg hl] at hy ⊢; exact hi.hbox y b hy)
    have hset : Settled (fun y => if γ.ω y = .lim ∧ y ≠ g then γ.h y + (G.map Prod.snd).foldl max 0 else γ.h y) G := by
      intro be hb
      have hle := mx (G.map Prod.snd) 0 be.2 (.inr (List.mem_map_of_mem hb))
      dsimp only
      split
      · omega
      · rename_i hl
        rcases hsome be hb with h | h
        · exact h
        · exact absurd ⟨h.1.1, h.2⟩ hl
    have hgg : (fun y => if γ.ω y = .lim ∧ y ≠ g then γ.h y + (G.map Prod.snd).foldl max 0 else γ.h y) g = γ.h g := by simp
    have hR : RowR (fun y => if γ.ω y = .lim ∧ y ≠ g then γ.h y + (G.map Prod.snd).foldl max 0 else γ.h y) w x (.slice (some ⟨g, o, none⟩) n c) [g] := by
      refine ⟨_, n, c, rfl, hn, hnc, hc, hk0, hek, hfl, .inr ⟨g, o, xs, G, rfl, hg, hth, hr, hl, by rw [hgg]; exact hh, fun h => by rw [hgg]; exact hfz h, happ, (fun h => by rw [hd] at h; cases h), fun _ => ⟨rfl, hset⟩⟩⟩
    exact ⟨_, [g], hs, rfl, rfl, fun y => by dsimp only; split <;> omega, hR, by simp, fun y hy => by
        simp only [List.mem_singleton] at hy
        subst hy
        refine ⟨?_, hg, hio⟩
        rcases hω with h | h <;> simp [h], fun _ => hset, fun y => by dsimp only; split <;> simp⟩
theorem Inv.closeRow (hi : Inv γ h0 io w0 s f w) {r : Nat} {x : Row} {n c g o : Nat} {xs : List Value} {G : Fp} (hn : n = x.es.length) (hnc : n ≤ c) (hc : c ≤ maxLen) (hk0 : 0 < x.k) (hek : ∀ e ∈ x.es, e.length = x.k) (hfl : x.fl = true → flat x.es)
    (hg : g < w.heap.size) (hω : γ.ω g = .lim ∨ γ.ω g = .free) (hio : w0.heap.size ≤ g ∨ g ∈ io) (hth : Thaw w g) (hr : RpE w x.es xs G) (hl : Lies w g o xs) (hh : γ.h g ≤ o + n * x.k) (hfz : x.fz = false → γ.h g = 0) (happ : x.app = true → o = 0 ∧ ∃ T vs, Blk w g T vs ∧ vs.length = c * x.k)
    (hsome : ∀ be ∈ G, be.2 ≤ γ.h be.1 ∨ (Lim γ w be.1 ∧ be.1 ≠ g)) (hdeep : x.deep = true → (g :: G.map Prod.fst).Nodup ∧ ∀ be ∈ G, Lim γ w be.1) :
    ∃ γ', Inv γ' h0 io w0 (s.newRow r x) f w ∧ γ'.sl r = .slice (some ⟨g, o, none⟩) n c ∧ γ'.β = γ.β ∧ (∀ y, γ.h y ≤ γ'.h y) ∧ ∀ q, q ≠ r → γ'.sl q = γ.sl q := by
  obtain ⟨γ1, F, i1, b1, s1, m1, hR, hnd, hF, hsG, hwG⟩ := hi.closeCore (r := r) hn hnc hc hk0 hek hfl hg hω hio hth hr hl hh hfz happ hsome hdeep
  obtain ⟨γ', h2, h3, h4, h5, _, h6⟩ := i1.addRow (r := r) hR hnd hF
  exact ⟨γ', h2, h3, h4.trans b1, fun y => by rw [h5]; exact m1 y, fun q hq => by rw [h6 q hq, s1]⟩
theorem Inv.closeSame (hi : Inv γ h0 io w0 s f w) {r : Nat} {x : Row} {n c g o : Nat} {xs : List Value} {G : Fp} (hn : n = x.es.length) (hnc : n ≤ c) (hc : c ≤ maxLen) (hk0 : 0 < x.k) (hek : ∀ e ∈ x.es, e.length = x.k) (hfl : x.fl = true → flat x.es)
    (hg : g < w.heap.size) (hω : γ.ω g = .lim ∨ γ.ω g = .free) (hio : w0.heap.size ≤ g ∨ g ∈ io) (hth : Thaw w g) (hr : RpE w x.es xs G) (hl : Lies w g o xs) (hh : γ.h g ≤ o + n * x.k) (hfz : x.fz = false → γ.h g = 0) (happ : x.app = true → o = 0 ∧ ∃ T vs, Blk w g T vs ∧ vs.length = c * x.k)
    (hsome : ∀ be ∈ G, be.2 ≤ γ.h be.1 ∨ (Lim γ w be.1 ∧ be.1 ≠ g)) (hdeep : x.deep = true → (g :: G.map Prod.fst).Nodup ∧ ∀ be ∈ G, Lim γ w be.1) (hsl : γ.sl r = .slice (some ⟨g, o, none⟩) n c) :
    ∃ γ', Inv γ' h0 io w0 (s.setRow r x) f w ∧ γ'.sl = γ.sl ∧ γ'.β = γ.β ∧ (∀ y, γ.h y ≤ γ'.h y) ∧ (x.deep = false → Settled γ'.h G) ∧ (∀ y, γ'.ω y = γ.ω y ∨ γ'.ω y = .free ∨ γ'.ω y = .row r) := by
  obtain ⟨γ1, F, i1, b1, s1, m1, hR, hnd, hF, hsG, hwG⟩ := hi.closeCore (r := r) hn hnc hc hk0 hek hfl hg hω hio hth hr hl hh hfz happ hsome hdeep
  rw [← hsl, ← s1] at hR
  obtain ⟨γ', h2, h3, h4, h5, h6⟩ := i1.setRow (r := r) hR hnd hF
  exact ⟨γ', h2, h3.trans s1, h4.trans b1, fun y => by rw [h5]; exact m1 y, fun hd => by rw [h5]; exact hsG hd, fun y => by
    rcases h6 y with h | h
    · rw [h]
      rcases hwG y with h' | h'
      · exact .inl h'
      · exact .inr (.inl h')
    · exact .inr (.inr h)⟩

theorem adv_off (hi : Inv γ h0 io w0 s f w) {g : Nat} {w1 : World} {M : Own → Prop} (ho : Off g w w1) (hM : M (γ.ω g)) (hc : ∀ j, j < γ.h g → w1.cell? ⟨g, j, none⟩ = w.cell? ⟨g, j, none⟩) : Adv γ M w w1 where
  os := ho.os
  tape := ho.tape
  output := ho.output
  size := by rw [ho.size]; exact Nat.le_refl _
  block y hy hn := ho.block y (fun e => hn (e ▸ hM))
  cell y j hj := by
    by_cases e : y = g
    · subst e; exact hc j hj
    · exact World.cell?_of_block (w := w) (ho.block y e)
  thaw y hy j := frozen_out (by rw [ho.size]; exact hy) j
  kthaw y hy j := by
    by_cases e : y = g
    · subst e; exact ho.fz j
    · rw [World.frozen?_of_block (w := w) (ho.block y e)]; exact hy j
end

theorem splice_mid (p m q u : List Value) (h : u.length = m.length) : splice (p ++ (m ++ q)) p.length u = p ++ u ++ q := by
  unfold splice
  rw [List.take_left, List.drop_append, List.drop_of_length_le (by omega), Nat.add_sub_cancel_left, List.nil_append, List.drop_append, List.drop_of_length_le (by omega), h, Nat.sub_self]
  simp
theorem splice_len {cs vs : List Value} {i : Nat} (h : i + vs.length ≤ cs.length) : (splice cs i vs).length = cs.length := by
  unfold splice
  simp
  omega
theorem nodup_swap {g : Nat} {Ga Gp Gm Gs Gc G1 : Fp} (h : (g :: (Ga ++ ((Gp ++ (Gm ++ Gs)) ++ Gc)).map Prod.fst).Nodup) (h1 : (G1.map Prod.fst).Nodup) (hd : ∀ y ∈ (Ga ++ ((Gp ++ (Gm ++ Gs)) ++ Gc)).map Prod.fst, y ∉ G1.map Prod.fst) (hg : g ∉ G1.map Prod.fst) :
    (g :: (Ga ++ ((Gp ++ G1 ++ Gs) ++ Gc)).map Prod.fst).Nodup := by
  simp only [List.map_append, List.nodup_cons, List.mem_append, List.nodup_append, not_or] at *
  grind

section
variable {P : Program} {γ : Gh} {h0 : Nat → Nat} {io : List Nat} {w0 : World} {s s' : St} {f : Fm} {w : World} {N : Nat} {ty : TypeId} {pos : String} {aft : Array Edge} {gd : Option (Nat × Bool)} {K : Fm → World → Prop}
  {cf : Nat → List A → Option (List A × List A)} {mf : Nat → Bool → List D → Int → Option (List D × Int)}

/-! ### make -/
theorem made_flat {z : Array Value} {k : Nat} (hz : z.size = k) (hk : 0 < k) : ∀ m : Nat, (madeCells z (m * k)).toList = (List.replicate m z.toList).flatten
  | 0 => by simp [madeCells]
  | m + 1 => by
    rw [List.replicate_succ, List.flatten_cons, ← made_flat hz hk m]
    apply List.ext_getElem?
    intro i
    have g1 : ∀ n j, (madeCells z n).toList[j]? = if j < n then some z[j % z.size]! else none := by
      intro n j
      simp only [madeCells, Array.toList_map, Array.toList_range, List.getElem?_map, List.getElem?_range]
      split
      · rename_i h; simp [h]
      · rename_i h; simp [h]
    rw [g1, List.getElem?_append, g1]
    simp only [Array.length_toList, hz, Nat.succ_mul]
    by_cases h1 : i < k
    · rw [if_pos (by omega), if_pos h1, Nat.mod_eq_of_lt h1]
      simp [hz, h1]
    · rw [if_neg h1]
      by_cases h2 : i < m * k + k
      · rw [if_pos h2, if_pos (by omega)]
        congr 2
        rw [Nat.mod_eq_sub_mod (by omega)]
      · rw [if_neg h2, if_neg (by omega)]
theorem rep_rep {w : World} {zs : List D} {vs : List Value} (h : RpC w zs vs []) : ∀ m : Nat, RpE w (List.replicate m zs) (List.replicate m vs).flatten []
  | 0 => by simp [RpE]
  | m + 1 => by
    rw [List.replicate_succ, List.replicate_succ, List.flatten_cons]
    simp only [RpE]
    exact ⟨vs, _, [], [], rfl, rfl, h, rep_rep h m⟩

theorem n_make (hi : Inv γ h0 io w0 s f w) {T E : TypeId} {k by_ : Nat} {fl : Bool} {zs : List D} {x x' : Operand} {y : KX} {r : Nat} {i : TypeInfo} {z : Value} (hU : P.underlying T = some (.slice E)) (hI : P.info? E = some i) (hz : i.zero = some z) (hsz : i.size = k) (hby : i.bytes = by_) (hk0 : 0 < k) (hzd : okZDs z.cells.toList zs = true) (hzl : zs.length = k) (hfl : fl = true → plains zs = true)
    (hx : okX N x y = true) (hx' : okX N x' y = true) (he : evN cf mf s (some r) (.make k by_ fl zs y) = some s') (h : ∀ γ' f' w', Inv γ' h0 io w0 s' f' w' → Tr (some r) [r] γ w γ' w' f f' → K f' w') : Op1 P N ⟨some r, .makeSlice T x x', ty, pos, aft, gd⟩ f w K := by
  have hv := evX_rel hi hx
  have hv' := evX_rel hi hx'
  simp only [evN] at he
  split at he
  · rename_i r' n hr hn
    cases hr
    rw [hn] at hv hv'
    obtain ⟨hv, _⟩ := cr_int hv
    obtain ⟨hv', _⟩ := cr_int hv'
    split at he
    · rename_i hc
      obtain ⟨c1, c2, c3⟩ := hc
      simp only [Option.some.injEq] at he
      subst he
      have hb1 : (i.bytes : Int) * n ≤ 281474976710656 := by
        rw [hby]
        have c2' : n.toNat * by_ ≤ 140737488355328 := c2
        have : ((n.toNat * by_ : Nat) : Int) ≤ 140737488355328 := Int.ofNat_le.2 c2'
        rw [Int.natCast_mul, Int.toNat_of_nonneg c1, Int.mul_comm] at this
        omega
      have hrun := run_make (P := P) w T E i z hU hI hz .i64 .i64 n n c1 (Int.le_refl _) hb1 (by omega)
      have hrpc : RpC w zs z.cells.toList [] := okZDs_rel _ _ hzd
      have hzc : z.cells.size = k := by rw [← Array.length_toList, RpC.length _ hrpc, hzl]
      have hmf := made_flat hzc hk0 n.toNat
      have hrun2 : (execOp (fr f N).eval ⟨some r, .makeSlice T x x', ty, pos, aft, gd⟩).run P w = .ok (.value (.slice (some ⟨w.heap.size, 0, none⟩) n.toNat n.toNat)) (w.alloc (.cells (List.replicate n.toNat z.cells.toList).flatten.toArray E)) := by
        rw [hsz] at hrun
        rw [← hmf]
        simp [execOp, hv, hv', hrun]
      have hrep := rep_rep hrpc n.toNat
      have hek : ∀ e ∈ List.replicate n.toNat zs, e.length = k := fun e he => by rw [(List.mem_replicate.1 he).2]; exact hzl
      have hlen : ((List.replicate n.toNat z.cells.toList).flatten).length = n.toNat * k := by rw [RpE.length _ hrep hek]; simp
      refine o_new hrun2 fun w1 hs hk hB => ?_
      obtain ⟨γ', h2, h3, h4, h5⟩ := hi.newRow (γ0 := γ) (dp := true) hk hB (n := n.toNat) (c := n.toNat) hs hrep (by rw [← hlen, List.take_length]) (by simp) (Nat.le_refl _) (by simp [maxLen]; omega) hlen hk0 hek (fun hf e he x hx => by
          have h1 := hfl hf
          rw [(List.mem_replicate.1 he).2] at hx
          simp only [plains, List.all_eq_true] at h1
          exact h1 x hx) ⟨rfl, rfl, fun _ => Nat.le_refl _, fun _ h => by simp at h, fun _ => by simp, fun _ h => ⟨h, rfl⟩, fun _ => .inl rfl⟩ r
      exact h γ' _ w1 (h2.put r (.ref r) _ (by simp only [CR, h3]; exact ⟨trivial, _, _, _, rfl⟩)) ⟨adv_bel hi hk _, fun x _ => by rw [h4], fun g => h5 g, .put⟩
    · cases he
  · cases he

/-! ### stores -/
theorem n_st (hi : Inv γ h0 io w0 s f w) {T : TypeId} {x v : Operand} {a b : KX} {n : Nat} (hS : sizeB P T = some n) (hx : okX N x a = true) (hv : okX N v b = true) (he : evN cf mf s none (.st n a b) = some s')
    (h : ∀ γ' f' w', Inv γ' h0 io w0 s' f' w' → Tr none (touch s none (.st n a b)) γ w γ' w' f f' → K f' w') : Op1 P N ⟨none, .store T x v, ty, pos, aft, gd⟩ f w K := by
  have hpx := evX_rel hi hx
  have hpv := evX_rel hi hv
  have fin : ∀ (g o : Nat) (T' : TypeId) (cs : List Value), (fr f N).eval x = .pointer (some ⟨g, o, none⟩) → Blk w g T' cs → ((fr f N).eval v).cells.toList.length = n → o + n ≤ cs.length → (∀ u ∈ ((fr f N).eval v).cells.toList, one u = true) →
      (execOp (fr f N).eval ⟨none, .store T x v, ty, pos, aft, gd⟩).run P w = .ok .skip (setB w g (.cells (splice cs o ((fr f N).eval v).cells.toList).toArray T' (0, 0))) := by
    intro g o T' cs hp hB hl ho h1
    have hst := run_storeCells (P := P) (o := o) ((fr f N).eval v).cells.toList 0 w cs hB (by omega) h1
    simp only [Nat.add_zero] at hst
    have hsz : ((fr f N).eval v).cells.size = n := by rw [← Array.length_toList]; exact hl
    simp [execOp, Instr.storeAt, hp, Instr.sureAddr, storeVar, run_sizeOf hS, hsz, hst]
  have ones : ∀ {cs : List C} {vs : List Value}, CRs γ w cs vs → cs.all C.cell = true → ∀ u ∈ vs, one u = true := by
    intro cs
    induction cs with
    | nil => intro vs h _; simp only [CRs] at h; simp [h]
    | cons c cs ih =>
      intro vs h hc
      simp only [CRs] at h
      obtain ⟨v, vs', rfl, h2, h3⟩ := h
      simp only [List.all_cons, Bool.and_eq_true] at hc
      intro u hu
      rcases List.mem_cons.1 hu with rfl | hu
      · cases c with
        | d x => simp only [CR] at h2; obtain ⟨F, h4, _⟩ := h2; exact h4.isOne
        | nil k fl => simp only [CR] at h2; rw [h2.1]; rfl
        | ref r => simp only [CR] at h2; obtain ⟨_, A, n, c, rfl⟩ := h2; rfl
        | _ => simp [C.cell] at hc
      · exact ih h3 hc.2 u hu
  simp only [evN] at he
  split at he
  · rename_i b' o hb
    rw [hb] at hpx
    simp only [CR] at hpx
    split at he
    · rename_i cs hl
      split at he
      · rename_i hc
        obtain ⟨c1, c2, c3⟩ := hc
        simp only [Option.some.injEq] at he
        subst he
        obtain ⟨T', vs, h1, h2, h3⟩ := hi.bx b' cs hl
        obtain ⟨hcv, _, _⟩ := hpv.cells c1
        have hlen := hcv.length
        refine o_skip (fin _ _ _ _ hpx h1 (by rw [hlen]; exact c2) (by rw [h2.length]; exact c3) (ones hcv c1)) ?_
        have hoff := Off.setB w (γ.β b') (splice vs o ((fr f N).eval v).cells.toList).toArray T'
        have hadv : Adv γ (fun o => ∃ i ∈ [b'], o = .box i ∨ o = .row i) w _ := adv_off hi hoff ⟨b', by simp, .inl h3⟩ (fun j hj => by rw [hi.hbox _ _ h3] at hj; omega)
        have hdrop : Inv γ h0 io w0 { s with bx := drp s.bx b' } f w := hi.sub (fun _ _ h => h) (fun d c h => by
          simp only [look_drp] at h
          split at h
          · cases h
          · exact h) (fun _ _ h => h)
        have h5 := hdrop.adv (adv_off hdrop hoff (M := fun o => o = .box b') h3 (fun j hj => by rw [hi.hbox _ _ h3] at hj; omega)) (by simp) (fun b hb => by cases hb; simp [look_drp]) (fun r hr => by cases hr)
        have hmono : ∀ {cs : List C} {us : List Value}, CRs γ w cs us → CRs γ (setB w (γ.β b') (.cells (splice vs o ((fr f N).eval v).cells.toList).toArray T' (0, 0))) cs us := fun h => h.mono (γ' := γ) (fun _ => Nat.le_refl _) hadv.cell rfl rfl _
        have h6 := h5.setBox (b := b') (h1.setSame T' _) h3 (hmono (h2.spl o hcv))
        have e : ({ s with bx := drp s.bx b' } : St).setBox b' (splC cs o (evX s b).cells) = s.setBox b' (splC cs o (evX s b).cells) := by
          have : drp (drp s.bx b') b' = drp s.bx b' := by simp [drp, List.filter_filter]
          simp [St.setBox, this]
        rw [e] at h6
        refine h γ f _ h6 ⟨?_, fun _ _ => rfl, fun _ => Nat.le_refl _, .skip⟩
        simp only [touch, hb]
        exact hadv
      · cases he
    · cases he
  · rename_i r k i o hb
    rw [hb] at hpx
    simp only [CR] at hpx
    obtain ⟨g, p, m, cc, hsl, hp⟩ := hpx
    split at he
    · rename_i ds dp s1 hem
      obtain ⟨hcell, hdl⟩ := emb_cell hem
      obtain ⟨hcv, _, _⟩ := hpv.cells hcell
      obtain ⟨γ1, G1, i1, r1, e1⟩ := emb_rel _ hi hcv hem
      split at he
      · rename_i row hl
        split at he
        · rename_i e hei
          split at he
          · rename_i hc
            obtain ⟨rfl, hfz, happ, hdn, hon, hfl, hdd⟩ := hc
            simp only [Option.some.injEq] at he
            subst he
            rw [nth_get] at hei
            obtain ⟨γ2, A, n', c', i2, b2, sl2, hh2, o2, l2, q1, q2, q3, q4, q5, q6, q7, q8⟩ := i1.openRow hl
            rw [e1.sl, hsl] at q1
            simp only [Value.slice.injEq] at q1
            obtain ⟨rfl, rfl, rfl⟩ := q1
            rcases q8 with ⟨q8, _⟩ | ⟨g', p', xs, G, a1, a2, a3, a4, a5, a6, a7, a8, a9, a10, a11, a12⟩
            · cases q8
            · simp only [Option.some.injEq, Addr.mk.injEq, and_true] at a1
              obtain ⟨rfl, rfl⟩ := a1
              obtain ⟨rfl, T', vs, hB, hvl⟩ := a10 happ
              have hg0 : γ1.h g = 0 := a9 hfz
              have hilt := (List.getElem?_eq_some_iff.1 hei).1
              have hel := q6 e (List.mem_of_getElem? hei)
              have hul := hcv.length
              have hus : ((fr f N).eval v).cells.toList.length = n := by rw [hul, ← hdl]; exact hdn
              have hik : i * row.k + row.k ≤ row.es.length * row.k := by rw [← Nat.succ_mul]; exact Nat.mul_le_mul_right _ hilt
              have hck : row.es.length * row.k ≤ cc * row.k := Nat.mul_le_mul_right _ (by omega)
              refine o_skip (fin _ _ _ _ hp hB hus (by omega) (ones hcv hcell)) ?_
              have hoff := Off.setB w g (splice vs (0 + i * row.k + o) ((fr f N).eval v).cells.toList).toArray T'
              have hγω : γ.ω g = .row r := by
                rcases e1.own g with h | h | h
                · rw [← h]; exact a3
                · rw [a3] at h; cases h
                · rw [a3] at h; cases h
              have hγ0 : γ.h g = 0 := by have := e1.h g; omega
              have hadv : Adv γ (fun o => ∃ i ∈ r :: rowsOf (evX s b).cells, o = .box i ∨ o = .row i) w _ := adv_off hi hoff ⟨r, by simp, .inr hγω⟩ (fun j hj => by rw [hγ0] at hj; omega)
              have h5 := i2.adv (adv_off i2 hoff (M := fun o => o = .lim) a4 (fun j hj => by rw [hh2, hg0] at hj; omega)) (by simp) (fun b hb => by cases hb) (fun r hr => by cases hr)
              -- the elements
              have e0 : row.es = row.es.take i ++ (e :: row.es.drop (i + 1)) := by
                rw [← (List.getElem?_eq_some_iff.1 hei).2, List.getElem_cons_drop, List.take_append_drop]
              have a6' := a6
              rw [e0] at a6'
              obtain ⟨x1, x2, Ga, Gb, ex, eG, ra, rb⟩ := RpE.append_inv _ a6'
              simp only [RpE] at rb
              obtain ⟨xe, x3, Ge, Gc, ex2, eG2, re, rc⟩ := rb
              subst ex2 eG2
              have hl1 : x1.length = i * row.k := by
                rw [RpE.length _ ra (fun x hx => q6 x (List.mem_of_mem_take hx)), List.length_take, Nat.min_eq_left (by omega)]
              have hle : xe.length = row.k := by rw [RpC.length _ re]; exact hel
              have e2 : e = e.take o ++ ((e.drop o).take n ++ e.drop (o + n)) := by
                rw [← List.drop_drop, List.take_append_drop, List.take_append_drop]
              have re' := re
              rw [e2] at re'
              obtain ⟨xa, xr, Gp, Gr, ex3, eG3, rp, rr⟩ := RpC.append_inv _ re'
              obtain ⟨xm, xc, Gm, Gs, ex4, eG4, rm, rs⟩ := RpC.append_inv _ rr
              subst ex3 eG3 ex4 eG4
              have hla : xa.length = o := by rw [RpC.length _ rp, List.length_take, hel, Nat.min_eq_left (by omega)]
              have hlm : xm.length = n := by rw [RpC.length _ rm, List.length_take, List.length_drop, hel, Nat.min_eq_left (by omega)]
              have hnew : RpC w (splC e o ds) (xa ++ ((fr f N).eval v).cells.toList ++ xc) (Gp ++ G1 ++ Gs) := by
                unfold splC
                rw [hdn]
                exact RpC.append _ (RpC.append _ rp r1) rs
              have hxl : xs.length ≤ vs.length := by rw [RpE.length _ a6 q6, hvl]; exact hck
              have hpre : vs = xs ++ vs.drop xs.length := by
                have : vs.take xs.length = xs := by
                  apply List.ext_getElem?
                  intro j
                  rw [List.getElem?_take]
                  by_cases hj : j < xs.length
                  · rw [if_pos hj]
                    have h7 := a7 j xs[j] (by simp [hj])
                    rw [Nat.zero_add, hB.cell] at h7
                    rw [h7]; simp [hj]
                  · rw [if_neg hj, List.getElem?_eq_none (by omega)]
                rw [← List.take_append_drop xs.length vs, this]
                simp
              have hspl : splice vs (0 + i * row.k + o) ((fr f N).eval v).cells.toList = (x1 ++ ((xa ++ ((fr f N).eval v).cells.toList ++ xc) ++ x3)) ++ vs.drop xs.length := by
                have e5 : vs = (x1 ++ xa) ++ (xm ++ (xc ++ x3 ++ vs.drop xs.length)) := by
                  rw [ex] at hpre
                  rw [ex]
                  simpa using hpre
                have h7 := splice_mid (x1 ++ xa) xm (xc ++ x3 ++ vs.drop xs.length) ((fr f N).eval v).cells.toList (by omega)
                rw [← e5] at h7
                rw [show 0 + i * row.k + o = (x1 ++ xa).length from by simp [hl1, hla], h7]
                simp
              have hlies1 : Lies (setB w g (.cells (splice vs (0 + i * row.k + o) ((fr f N).eval v).cells.toList).toArray T' (0, 0))) g 0 (x1 ++ ((xa ++ ((fr f N).eval v).cells.toList ++ xc) ++ x3)) := by
                have h7 := (hB.setSame T' (splice vs (0 + i * row.k + o) ((fr f N).eval v).cells.toList)).lies
                intro j u hu
                refine h7 j u ?_
                rw [hspl, List.getElem?_append_left (List.getElem?_eq_some_iff.1 hu).1]
                exact hu
              have hold : ∀ be ∈ Ga ++ ((Gp ++ Gs) ++ Gc), be ∈ G := by
                intro be hb
                rw [eG]
                simp only [List.mem_append] at hb ⊢
                grind
              have hmem : ∀ be ∈ Ga ++ ((Gp ++ G1 ++ Gs) ++ Gc), be ∈ G ∨ be ∈ G1 := by
                intro be hb
                simp only [List.mem_append] at hb
                by_cases h8 : be ∈ G1
                · exact .inr h8
                · refine .inl (hold be ?_)
                  simp only [List.mem_append]
                  grind
              have hsome2 : ∀ be ∈ Ga ++ ((Gp ++ G1 ++ Gs) ++ Gc), be.2 ≤ γ2.h be.1 ∨ (Lim γ2 (setB w g (.cells (splice vs (0 + i * row.k + o) ((fr f N).eval v).cells.toList).toArray T' (0, 0))) be.1 ∧ be.1 ≠ g) := by
                intro be hb
                rcases hmem be hb with h8 | h8
                · rcases a11 be h8 with h9 | ⟨h9, h10⟩
                  · exact .inl (by rw [hh2]; exact h9)
                  · exact .inr ⟨⟨h9.1, h9.2.1, fun j => by rw [World.frozen?_of_block (w := w) (hoff.block _ h10)]; exact h9.2.2 j⟩, h10⟩
                · rcases e1.some_ be h8 with h9 | h9
                  · exact .inl (by rw [hh2]; exact h9)
                  · have h10 : be.1 ≠ g := fun e => by have := h9.1; rw [e, a3] at this; cases this
                    exact .inr ⟨⟨by rw [o2 _ (by rw [h9.1]; simp)]; exact h9.1, by rw [hh2]; exact h9.2.1, fun j => by rw [World.frozen?_of_block (w := w) (hoff.block _ h10)]; exact h9.2.2 j⟩, h10⟩
              have hrp1 : RpE (setB w g (.cells (splice vs (0 + i * row.k + o) ((fr f N).eval v).cells.toList).toArray T' (0, 0))) (row.es.set i (splC e o ds)) (x1 ++ ((xa ++ ((fr f N).eval v).cells.toList ++ xc) ++ x3)) (Ga ++ ((Gp ++ G1 ++ Gs) ++ Gc)) := by
                have h7 : RpE w (row.es.set i (splC e o ds)) (x1 ++ ((xa ++ ((fr f N).eval v).cells.toList ++ xc) ++ x3)) (Ga ++ ((Gp ++ G1 ++ Gs) ++ Gc)) := by
                  rw [List.set_eq_take_append_cons_drop, if_pos hilt]
                  refine RpE.append _ ra ?_
                  simp only [RpE]
                  exact ⟨_, _, _, _, rfl, rfl, hnew, rc⟩
                refine h7.keep _ fun be hb j hj => ?_
                by_cases h8 : be.1 = g
                · rcases hsome2 be hb with h9 | h9
                  · rw [h8, hh2, hg0] at h9; omega
                  · exact absurd h8 h9.2
                · exact World.cell?_of_block (w := w) (hoff.block _ h8)
              obtain ⟨γ3, h6, h7, h8, h9, _, _⟩ := h5.closeSame (r := r) (x := { row with es := row.es.set i (splC e o ds) }) (n := m) (c := cc) (g := g) (o := 0) (by simp [q2]) q3 q4 q5
                (fun y hy => by
                  rcases List.mem_or_eq_of_mem_set hy with h | h
                  · exact q6 y h
                  · rw [h]; unfold splC; simp [hel]; omega)
                (fun hf y hy => by
                  rcases List.mem_or_eq_of_mem_set hy with h | h
                  · exact q7 hf y h
                  · rw [h]
                    intro z hz
                    unfold splC at hz
                    simp only [List.mem_append] at hz
                    rcases hz with (hz | hz) | hz
                    · exact q7 hf e (List.mem_of_getElem? hei) z (List.mem_of_mem_take hz)
                    · have := hfl hf; simp only [plains, List.all_eq_true] at this; exact this z hz
                    · exact q7 hf e (List.mem_of_getElem? hei) z (List.mem_of_mem_drop hz))
                (by rw [size_setB]; exact a2) (.inl a4) (by have := (i2.own g (by rw [a4]; simp)).2; exact this) hoff.fz hrp1 hlies1 (by rw [hh2, hg0]; omega) (fun _ => by rw [hh2, hg0]) (fun _ => ⟨rfl, T', _, hB.setSame T' _, by rw [splice_len (by omega)]; exact hvl⟩)
                hsome2
                (fun hd => by
                  have hdp : dp = true := by
                    have hd' : row.deep = true := hd
                    simpa [hd'] using hdd
                  obtain ⟨n1, l1⟩ := e1.deep hdp
                  obtain ⟨n2, l2'⟩ := a12 hd
                  refine ⟨?_, fun be hb => ?_⟩
                  · have hdisj : ∀ y ∈ G.map Prod.fst, y ∉ G1.map Prod.fst := by
                      intro y hy hy1
                      obtain ⟨be, hb, rfl⟩ := List.mem_map.1 hy
                      obtain ⟨be1, hb1, e8⟩ := List.mem_map.1 hy1
                      have u1 := (l2' be hb).2
                      have u2 := (l1 be1 hb1).1.1
                      rw [e8, u1] at u2; cases u2
                    have hg1 : g ∉ G1.map Prod.fst := by
                      intro hy1
                      obtain ⟨be1, hb1, e8⟩ := List.mem_map.1 hy1
                      have u2 := (l1 be1 hb1).1.1
                      rw [e8, a3] at u2; cases u2
                    rw [eG] at n2 hdisj
                    exact nodup_swap n2 n1 hdisj hg1
                  · rcases hsome2 be hb with h10 | h10
                    · rcases hmem be hb with h11 | h11
                      · have := (l2' be h11).1
                        rcases a11 be h11 with h12 | h12
                        · refine ⟨this.1, this.2.1, ?_⟩
                          have hne : be.1 ≠ g := fun e9 => by
                            have := (List.nodup_cons.1 n2).1
                            exact this (by rw [← e9]; exact List.mem_map_of_mem h11)
                          intro j
                          rw [World.frozen?_of_block (w := w) (hoff.block _ hne)]; exact this.2.2 j
                        · exact ⟨this.1, this.2.1, fun j => by rw [World.frozen?_of_block (w := w) (hoff.block _ h12.2)]; exact this.2.2 j⟩
                      · have h12 := (l1 be h11).1
                        have hne : be.1 ≠ g := fun e => by have := h12.1; rw [e, a3] at this; cases this
                        exact ⟨by rw [o2 _ (by rw [h12.1]; simp)]; exact h12.1, by rw [hh2]; exact h12.2.1, fun j => by rw [World.frozen?_of_block (w := w) (hoff.block _ hne)]; exact h12.2.2 j⟩
                    · exact h10.1)
                (by rw [sl2, e1.sl]; exact hsl)
              have e6 : (s1.dropRow r).setRow r { row with es := row.es.set i (splC e o ds) } = s1.setRow r { row with es := row.es.set i (splC e o ds) } := by
                have : drp (drp s1.rw r) r = drp s1.rw r := by simp [drp, List.filter_filter]
                simp [St.setRow, St.dropRow, this]
              rw [e6] at h6
              refine h γ3 f _ h6 ⟨?_, fun _ _ => by rw [h8, b2, e1.β], fun y => by have := h9 y; rw [hh2] at this; exact Nat.le_trans (e1.h y) this, .skip⟩
              simp only [touch, hb]
              exact hadv
          · cases he
        · cases he
      · cases he
    · cases he
  · cases he
end
end Go.Proofs.Ytmaigpiappmpcaa
