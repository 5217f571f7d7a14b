/-
  The machine without fuel: what a function answers at some fuel (lim). No program is named here.
-/
import Derived.Test.YtmaigpiappmpcaaKMarkf
namespace Go.Proofs.Ytmaigpiappmpcaa
set_option linter.unusedVariables false
set_option linter.unusedSimpArgs false

abbrev Cf := Nat → List A → Option (List A × List A)
abbrev Mf := Nat → Bool → List D → Int → Option (List D × Int)
/-- questions with their answers -/
inductive Qu where
  | c (f : Nat) (a : List A) (r : List A × List A)
  | m (f : Nat) (g : Bool) (ds : List D) (q : Int) (r : List D × Int)
def Qu.ok (cf : Cf) (mf : Mf) : Qu → Prop
  | .c f a r => cf f a = some r
  | .m f g ds q r => mf f g ds q = some r
abbrev Asked := List Qu
def Told (cf : Cf) (mf : Mf) (L : Asked) : Prop := ∀ t ∈ L, t.ok cf mf
theorem Told.nil {cf : Cf} {mf : Mf} : Told cf mf [] := fun _ h => by simp at h
theorem Told.left {cf : Cf} {mf : Mf} {L M : Asked} (h : Told cf mf (L ++ M)) : Told cf mf L := fun t ht => h t (by simp [ht])
theorem Told.right {cf : Cf} {mf : Mf} {L M : Asked} (h : Told cf mf (L ++ M)) : Told cf mf M := fun t ht => h t (by simp [ht])
theorem Told.append {cf : Cf} {mf : Mf} {L M : Asked} (h : Told cf mf L) (h' : Told cf mf M) : Told cf mf (L ++ M) := fun t ht => by
  rcases List.mem_append.1 ht with ht | ht
  · exact h t ht
  · exact h' t ht

section
variable {cf : Cf} {mf : Mf}

theorem evN_dep {s s' : St} {d : Option Nat} {o : KO} (he : evN cf mf s d o = some s') : ∃ L, Told cf mf L ∧ ∀ (cf' : Cf) (mf' : Mf), Told cf' mf' L → evN cf' mf' s d o = some s' := by
  cases o with
  | call f xs =>
    simp only [evN, evCall] at he
    split at he
    · cases he
    · rename_i as has
      split at he
      · rename_i hc
        split at he
        · cases he
        · rename_i rs outs hcf
          refine ⟨[.c f as (rs, outs)], fun t ht => by simp at ht; subst ht; exact hcf, fun cf' mf' h => ?_⟩
          have h1 : cf' f as = some (rs, outs) := h (.c f as (rs, outs)) (by simp)
          simp only [evN, evCall, has, hc, if_true, h1]
          exact he
      · cases he
  | mrk f x y =>
    simp only [evN] at he
    split at he
    · rename_i d0 q hq
      split at he
      · rename_i ds hds
        split at he
        · rename_i hnd
          split at he
          · rename_i ds' q' hm
            refine ⟨[.m f (evX s x).isAgg ds q (ds', q')], fun t ht => by simp at ht; subst ht; exact hm, fun cf' mf' h => ?_⟩
            have h1 : mf' f (evX s x).isAgg ds q = some (ds', q') := h (.m f (evX s x).isAgg ds q (ds', q')) (by simp)
            simp only [evN, hq, hds, hnd, if_true, h1]
            exact he
          · cases he
        · cases he
      · cases he
    · cases he
  | _ => exact ⟨[], Told.nil, fun cf' mf' _ => he⟩
theorem evO_dep {s s' : St} {d : Option Nat} {o : KO} (he : evO cf mf s d o = some s') : ∃ L, Told cf mf L ∧ ∀ (cf' : Cf) (mf' : Mf), Told cf' mf' L → evO cf' mf' s d o = some s' := by
  unfold evO at he
  split at he
  · rename_i hp
    exact ⟨[], Told.nil, fun cf' mf' _ => by simp only [evO, hp, if_true]; exact he⟩
  · rename_i hp
    obtain ⟨L, h1, h2⟩ := evN_dep he
    exact ⟨L, h1, fun cf' mf' h => by simp only [evO, hp]; exact h2 cf' mf' h⟩
theorem evI_dep {s s' : St} {i : KI} (he : evI cf mf s i = some s') : ∃ L, Told cf mf L ∧ ∀ (cf' : Cf) (mf' : Mf), Told cf' mf' L → evI cf' mf' s i = some s' := by
  unfold evI at he ⊢
  split at he
  · exact evO_dep he
  · split at he
    · split at he
      · obtain ⟨L, h1, h2⟩ := evO_dep he
        exact ⟨L, h1, fun cf' mf' h => by simp_all⟩
      · exact ⟨[], Told.nil, fun cf' mf' _ => by simp_all⟩
    · exact ⟨[], Told.nil, fun cf' mf' _ => by simp_all⟩
    · cases he
theorem evOps_dep : ∀ (is : List KI) {s s' : St}, evOps cf mf is s = some s' → ∃ L, Told cf mf L ∧ ∀ (cf' : Cf) (mf' : Mf), Told cf' mf' L → evOps cf' mf' is s = some s'
  | [], s, s', he => ⟨[], Told.nil, fun cf' mf' _ => he⟩
  | i :: is, s, s', he => by
    simp only [evOps] at he
    split at he
    · rename_i s1 h1
      obtain ⟨L, a1, a2⟩ := evI_dep h1
      obtain ⟨M, b1, b2⟩ := evOps_dep is he
      exact ⟨L ++ M, a1.append b1, fun cf' mf' h => by simp only [evOps, a2 cf' mf' h.left, b2 cf' mf' h.right]⟩
    · cases he
theorem evDs_dep : ∀ (is : KT) {kp : Keep} {tk : List (List Nat × Nat)} {s s' : St}, evDs cf mf kp is tk s = some s' → ∃ L, Told cf mf L ∧ ∀ (cf' : Cf) (mf' : Mf), Told cf' mf' L → evDs cf' mf' kp is tk s = some s'
  | .nil, kp, tk, s, s', he => ⟨[], Told.nil, fun cf' mf' _ => he⟩
  | .op ⟨j, q, al, dn, i⟩ is, kp, tk, s, s', he => by
    simp only [evDs] at he
    cases q with
    | true =>
      simp only [if_true] at he
      split at he
      · rename_i hg
        split at he
        · rename_i c b hc hb
          obtain ⟨L, a1, a2⟩ := evDs_dep is he
          exact ⟨L, a1, fun cf' mf' h => by simp only [evDs, if_true, hg, hc, hb]; exact a2 cf' mf' h⟩
        · cases he
      · rename_i g want hg
        split at he
        · rename_i b hgb
          split at he
          · rename_i hbw
            split at he
            · rename_i c b' hc hb
              obtain ⟨L, a1, a2⟩ := evDs_dep is he
              exact ⟨L, a1, fun cf' mf' h => by simp only [evDs, if_true, hg, hgb, hbw, hc, hb]; exact a2 cf' mf' h⟩
            · cases he
          · rename_i hbw
            obtain ⟨L, a1, a2⟩ := evDs_dep is he
            exact ⟨L, a1, fun cf' mf' h => by simp only [evDs, if_true, hg, hgb, hbw, if_false]; exact a2 cf' mf' h⟩
        · rename_i hgu
          obtain ⟨L, a1, a2⟩ := evDs_dep is he
          exact ⟨L, a1, fun cf' mf' h => by simp only [evDs, if_true, hg, hgu]; exact a2 cf' mf' h⟩
        · cases he
    | false =>
      simp only [stepN, Bool.false_eq_true, if_false] at he
      split at he
      · rename_i s1 h1
        split at he
        · rename_i hall
          obtain ⟨L, a1, a2⟩ := evI_dep h1
          obtain ⟨M, b1, b2⟩ := evDs_dep is he
          exact ⟨L ++ M, a1.append b1, fun cf' mf' h => by simp only [evDs, stepN, Bool.false_eq_true, if_false, a2 cf' mf' h.left, hall, if_true]; exact b2 cf' mf' h.right⟩
        · cases he
      · cases he
  | .alt x is r, kp, tk, s, s', he => by
    have hee : stepN cf mf x tk s (evDs cf mf kp is) = some s' ∧ evDs cf mf kp r tk s = some s' := by
      simp only [evDs, both] at he
      split at he
      · rename_i a b ha hb'
        split at he
        · rename_i hab
          subst hab
          cases he
          exact ⟨ha, hb'⟩
        · cases he
      · cases he
    obtain ⟨he, her⟩ := hee
    obtain ⟨R, r1, r2⟩ := evDs_dep r her
    simp only [stepN] at he
    split at he
    · rename_i s1 h1
      split at he
      · rename_i hall
        obtain ⟨L, a1, a2⟩ := evI_dep h1
        obtain ⟨M, b1, b2⟩ := evDs_dep is he
        refine ⟨(L ++ M) ++ R, (a1.append b1).append r1, fun cf' mf' h => ?_⟩
        simp only [evDs, stepN, a2 cf' mf' h.left.left, hall, if_true, b2 cf' mf' h.left.right, r2 cf' mf' h.right, both]
      · cases he
    · cases he

/-- code asks finitely often; more rounds do no harm -/
theorem evC_dep : ∀ (k : K) {n : Nat} {s : St} {r : Ex × St}, evC cf mf n k s = some r → ∃ L, Told cf mf L ∧ ∀ (cf' : Cf) (mf' : Mf) (n' : Nat), Told cf' mf' L → n ≤ n' → evC cf' mf' n' k s = some r
  | .skip, n, s, r, he => ⟨[], Told.nil, fun cf' mf' n' _ _ => by simpa [evC] using he⟩
  | .reg is kp, n, s, r, he => by
    simp only [evC] at he
    split at he
    · rename_i s1 h1
      obtain ⟨L, a1, a2⟩ := evOps_dep is h1
      exact ⟨L, a1, fun cf' mf' n' h _ => by simp only [evC, a2 cf' mf' h]; exact he⟩
    · cases he
  | .drw is kp, n, s, r, he => by
    simp only [evC] at he
    split at he
    · rename_i s1 h1
      obtain ⟨L, a1, a2⟩ := evDs_dep is h1
      exact ⟨L, a1, fun cf' mf' n' h _ => by simp only [evC, a2 cf' mf' h]; exact he⟩
    · cases he
  | .seq a b, n, s, r, he => by
    simp only [evC] at he
    split at he
    · rename_i s1 h1
      obtain ⟨L, a1, a2⟩ := evC_dep a h1
      obtain ⟨M, b1, b2⟩ := evC_dep b he
      exact ⟨L ++ M, a1.append b1, fun cf' mf' n' h hn => by simp only [evC, a2 cf' mf' n' h.left hn]; exact b2 cf' mf' n' h.right hn⟩
    · rename_i hne
      obtain ⟨L, a1, a2⟩ := evC_dep a he
      refine ⟨L, a1, fun cf' mf' n' h hn => ?_⟩
      simp only [evC, a2 cf' mf' n' h hn]
      obtain ⟨e, s2⟩ := r
      cases e with
      | norm => exact absurd he (hne s2)
      | _ => rfl
  | .cond x a b, n, s, r, he => by
    simp only [evC] at he
    split at he
    · rename_i t ht
      cases t with
      | true =>
        simp only [if_true] at he
        obtain ⟨L, a1, a2⟩ := evC_dep a he
        exact ⟨L, a1, fun cf' mf' n' h hn => by simp only [evC, ht, if_true]; exact a2 cf' mf' n' h hn⟩
      | false =>
        simp only [Bool.false_eq_true, if_false] at he
        obtain ⟨L, a1, a2⟩ := evC_dep b he
        exact ⟨L, a1, fun cf' mf' n' h hn => by simp only [evC, ht, Bool.false_eq_true, if_false]; exact a2 cf' mf' n' h hn⟩
    · cases he
  | .block i a, n, s, r, he => by
    simp only [evC] at he
    split at he
    · rename_i i' s1 h1
      obtain ⟨L, a1, a2⟩ := evC_dep a h1
      exact ⟨L, a1, fun cf' mf' n' h hn => by simp only [evC, a2 cf' mf' n' h hn]; exact he⟩
    · rename_i hne
      obtain ⟨L, a1, a2⟩ := evC_dep a he
      refine ⟨L, a1, fun cf' mf' n' h hn => ?_⟩
      simp only [evC, a2 cf' mf' n' h hn]
      obtain ⟨e, s2⟩ := r
      cases e with
      | exit i => exact absurd he (hne i s2)
      | _ => rfl
  | .loop a, n, s, r, he => by
    simp only [evC] at he
    have go : ∀ (m : Nat) (s : St), iter (evC cf mf n a) m s = some r → ∃ L, Told cf mf L ∧ ∀ (cf' : Cf) (mf' : Mf) (n' m' : Nat), Told cf' mf' L → n ≤ n' → m ≤ m' → iter (evC cf' mf' n' a) m' s = some r := by
      intro m
      induction m with
      | zero => intro s h; simp [iter] at h
      | succ m ih =>
        intro s h
        simp only [iter] at h
        split at h
        · rename_i s1 h1
          obtain ⟨L, a1, a2⟩ := evC_dep a h1
          obtain ⟨M, b1, b2⟩ := ih s1 h
          refine ⟨L ++ M, a1.append b1, fun cf' mf' n' m' hT hn hm => ?_⟩
          obtain ⟨m'', rfl⟩ : ∃ z, m' = z + 1 := ⟨m' - 1, by omega⟩
          simp only [iter, a2 cf' mf' n' hT.left hn]
          exact b2 cf' mf' n' m'' hT.right hn (by omega)
        · rename_i hne
          obtain ⟨L, a1, a2⟩ := evC_dep a h
          refine ⟨L, a1, fun cf' mf' n' m' hT hn hm => ?_⟩
          obtain ⟨m'', rfl⟩ : ∃ z, m' = z + 1 := ⟨m' - 1, by omega⟩
          simp only [iter, a2 cf' mf' n' hT hn]
          obtain ⟨e, s2⟩ := r
          cases e with
          | norm => exact absurd h (hne s2)
          | _ => rfl
    obtain ⟨L, a1, a2⟩ := go n s he
    exact ⟨L, a1, fun cf' mf' n' h hn => by simp only [evC]; exact a2 cf' mf' n' n' h hn hn⟩
  | .exit i, n, s, r, he => ⟨[], Told.nil, fun cf' mf' n' _ _ => by simpa [evC] using he⟩
  | .ret, n, s, r, he => ⟨[], Told.nil, fun cf' mf' n' _ _ => by simpa [evC] using he⟩
  | .share r0 a, n, s, r, he => by
    simp only [evC] at he
    obtain ⟨L, a1, a2⟩ := evC_dep a he
    exact ⟨L, a1, fun cf' mf' n' h hn => by simp only [evC]; exact a2 cf' mf' n' h hn⟩
  | .dat d a, n, s, r, he => by
    simp only [evC] at he
    split at he
    · rename_i r0 hr
      split at he
      · rename_i x hx
        obtain ⟨L, a1, a2⟩ := evC_dep a he
        exact ⟨L, a1, fun cf' mf' n' h hn => by simp only [evC, hr, hx]; exact a2 cf' mf' n' h hn⟩
      · cases he
    · rename_i hne
      obtain ⟨L, a1, a2⟩ := evC_dep a he
      refine ⟨L, a1, fun cf' mf' n' h hn => ?_⟩
      simp only [evC]
      exact a2 cf' mf' n' h hn
theorem runF_dep {n : Nat} {kf : KF} {args : List A} {r : List A × List A} (he : runF cf mf n kf args = some r) : ∃ L, Told cf mf L ∧ ∀ (cf' : Cf) (mf' : Mf) (n' : Nat), Told cf' mf' L → n ≤ n' → runF cf' mf' n' kf args = some r := by
  unfold runF at he
  split at he
  · rename_i hl
    split at he
    · rename_i s h1
      obtain ⟨L, a1, a2⟩ := evC_dep kf.body h1
      exact ⟨L, a1, fun cf' mf' n' h hn => by simp only [runF, hl, if_true, a2 cf' mf' n' h hn]; exact he⟩
    · rename_i s h1
      obtain ⟨L, a1, a2⟩ := evC_dep kf.body h1
      exact ⟨L, a1, fun cf' mf' n' h hn => by simp only [runF, hl, if_true, a2 cf' mf' n' h hn]; exact he⟩
    · cases he
  · cases he
end


/-! ### the machine for marks -/
section
variable {cf : Cf} {mf : Mf} {own : Bool} {k : Nat}
theorem evMp_dep {m m' : MS} {d f : Nat} {xs : List KX} (he : evMp cf m d f xs = some m') : ∃ L, Told cf mf L ∧ ∀ (cf' : Cf) (mf' : Mf), Told cf' mf' L → evMp cf' m d f xs = some m' := by
  simp only [evMp] at he
  split at he
  · rename_i as has
    split at he
    · rename_i r hr
      refine ⟨[.c f as ([.val false [.d r]], [])], fun t ht => by simp at ht; subst ht; exact hr, fun cf' mf' h => ?_⟩
      have h1 : cf' f as = _ := h (.c f as ([.val false [.d r]], [])) (by simp)
      simp only [evMp, has, h1]
      exact he
    · cases he
  · cases he
theorem evMm_dep {m m' : MS} {d f : Nat} {c : MC} {y : C} (he : evMm mf m d f c y = some m') : ∃ L, Told cf mf L ∧ ∀ (cf' : Cf) (mf' : Mf), Told cf' mf' L → evMm mf' m d f c y = some m' := by
  unfold evMm at he
  split at he
  · rename_i i o q
    split at he
    · rename_i k fl es hes
      split at he
      · rename_i x' q' hx
        refine ⟨[.m f false [.list k fl es] q ([x'], q')], fun t ht => by simp at ht; subst ht; exact hx, fun cf' mf' h => ?_⟩
        have h1 : mf' f false [.list k fl es] q = _ := h (.m f false [.list k fl es] q ([x'], q')) (by simp)
        simp only [evMm, hes, h1]
        exact he
      · cases he
    · cases he
  · rename_i i o n q
    split at he
    · rename_i e hes
      split at he
      · rename_i xs q' hx
        refine ⟨[.m f true ((e.drop o).take n) q (xs, q')], fun t ht => by simp at ht; subst ht; exact hx, fun cf' mf' h => ?_⟩
        have h1 : mf' f true ((e.drop o).take n) q = _ := h (.m f true ((e.drop o).take n) q (xs, q')) (by simp)
        simp only [evMm, hes, h1]
        exact he
      · cases he
    · cases he
  · cases he
theorem evM1_dep {m m' : MS} {d : Nat} {o : KO} (he : evM1 cf mf k m d o = some m') : ∃ L, Told cf mf L ∧ ∀ (cf' : Cf) (mf' : Mf), Told cf' mf' L → evM1 cf' mf' k m d o = some m' := by
  cases o with
  | call f xs =>
    rcases xs with _ | ⟨x, _ | ⟨y, _ | ⟨z, xs⟩⟩⟩
    · simp only [evM1] at he ⊢; exact evMp_dep he
    · simp only [evM1] at he ⊢; exact evMp_dep he
    · simp only [evM1] at he ⊢
      cases hx : m.spx x with
      | none => rw [hx] at he; exact evMp_dep he
      | some c => rw [hx] at he; exact evMm_dep he
    · simp only [evM1] at he ⊢; exact evMp_dep he
  | _ => exact ⟨[], Told.nil, fun cf' mf' _ => he⟩
theorem evMI_dep {m m' : MS} {i : KI} (he : evMI cf mf own k m i = some m') : ∃ L, Told cf mf L ∧ ∀ (cf' : Cf) (mf' : Mf), Told cf' mf' L → evMI cf' mf' own k m i = some m' := by
  obtain ⟨d, o, g⟩ := i
  cases g with
  | some g => simp [evMI] at he
  | none =>
    cases d with
    | some d => exact evM1_dep he
    | none => exact ⟨[], Told.nil, fun cf' mf' _ => he⟩
theorem evMs_dep : ∀ (is : List KI) {m m' : MS}, evMs cf mf own k is m = some m' → ∃ L, Told cf mf L ∧ ∀ (cf' : Cf) (mf' : Mf), Told cf' mf' L → evMs cf' mf' own k is m = some m'
  | [], m, m', he => ⟨[], Told.nil, fun cf' mf' _ => he⟩
  | i :: is, m, m', he => by
    simp only [evMs] at he
    split at he
    · rename_i s1 h1
      obtain ⟨L, a1, a2⟩ := evMI_dep h1
      obtain ⟨M, b1, b2⟩ := evMs_dep is he
      exact ⟨L ++ M, a1.append b1, fun cf' mf' h => by simp only [evMs, a2 cf' mf' h.left, b2 cf' mf' h.right]⟩
    · cases he
theorem evMC_dep : ∀ (c : K) {n : Nat} {s : MS} {r : Ex × MS}, evMC cf mf own k n c s = some r → ∃ L, Told cf mf L ∧ ∀ (cf' : Cf) (mf' : Mf) (n' : Nat), Told cf' mf' L → n ≤ n' → evMC cf' mf' own k n' c s = some r
  | .skip, n, s, r, he => ⟨[], Told.nil, fun cf' mf' n' _ _ => by simpa [evMC] using he⟩
  | .reg is kp, n, s, r, he => by
    simp only [evMC] at he
    split at he
    · rename_i s1 h1
      obtain ⟨L, a1, a2⟩ := evMs_dep is h1
      exact ⟨L, a1, fun cf' mf' n' h _ => by simp only [evMC, a2 cf' mf' h]; exact he⟩
    · cases he
  | .drw is kp, n, s, r, he => by simp [evMC] at he
  | .seq a b, n, s, r, he => by
    simp only [evMC] at he
    split at he
    · rename_i s1 h1
      obtain ⟨L, a1, a2⟩ := evMC_dep a h1
      obtain ⟨M, b1, b2⟩ := evMC_dep b he
      exact ⟨L ++ M, a1.append b1, fun cf' mf' n' h hn => by simp only [evMC, a2 cf' mf' n' h.left hn]; exact b2 cf' mf' n' h.right hn⟩
    · rename_i hne
      obtain ⟨L, a1, a2⟩ := evMC_dep a he
      refine ⟨L, a1, fun cf' mf' n' h hn => ?_⟩
      simp only [evMC, a2 cf' mf' n' h hn]
      obtain ⟨e, s2⟩ := r
      cases e with
      | norm => exact absurd he (hne s2)
      | _ => rfl
  | .cond x a b, n, s, r, he => by
    simp only [evMC] at he
    split at he
    · rename_i t ht
      cases t with
      | true =>
        simp only [if_true] at he
        obtain ⟨L, a1, a2⟩ := evMC_dep a he
        exact ⟨L, a1, fun cf' mf' n' h hn => by simp only [evMC, ht, if_true]; exact a2 cf' mf' n' h hn⟩
      | false =>
        simp only [Bool.false_eq_true, if_false] at he
        obtain ⟨L, a1, a2⟩ := evMC_dep b he
        exact ⟨L, a1, fun cf' mf' n' h hn => by simp only [evMC, ht, Bool.false_eq_true, if_false]; exact a2 cf' mf' n' h hn⟩
    · cases he
  | .block i a, n, s, r, he => by
    simp only [evMC] at he
    split at he
    · rename_i i' s1 h1
      obtain ⟨L, a1, a2⟩ := evMC_dep a h1
      exact ⟨L, a1, fun cf' mf' n' h hn => by simp only [evMC, a2 cf' mf' n' h hn]; exact he⟩
    · rename_i hne
      obtain ⟨L, a1, a2⟩ := evMC_dep a he
      refine ⟨L, a1, fun cf' mf' n' h hn => ?_⟩
      simp only [evMC, a2 cf' mf' n' h hn]
      obtain ⟨e, s2⟩ := r
      cases e with
      | exit i => exact absurd he (hne i s2)
      | _ => rfl
  | .loop a, n, s, r, he => by
    simp only [evMC] at he
    have go : ∀ (m : Nat) (s : MS), iterM (evMC cf mf own k n a) m s = some r → ∃ L, Told cf mf L ∧ ∀ (cf' : Cf) (mf' : Mf) (n' m' : Nat), Told cf' mf' L → n ≤ n' → m ≤ m' → iterM (evMC cf' mf' own k n' a) m' s = some r := by
      intro m
      induction m with
      | zero => intro s h; simp [iterM] at h
      | succ m ih =>
        intro s h
        simp only [iterM] at h
        split at h
        · rename_i s1 h1
          obtain ⟨L, a1, a2⟩ := evMC_dep a h1
          obtain ⟨M, b1, b2⟩ := ih s1 h
          refine ⟨L ++ M, a1.append b1, fun cf' mf' n' m' hT hn hm => ?_⟩
          obtain ⟨m'', rfl⟩ : ∃ z, m' = z + 1 := ⟨m' - 1, by omega⟩
          simp only [iterM, a2 cf' mf' n' hT.left hn]
          exact b2 cf' mf' n' m'' hT.right hn (by omega)
        · rename_i hne
          obtain ⟨L, a1, a2⟩ := evMC_dep a h
          refine ⟨L, a1, fun cf' mf' n' m' hT hn hm => ?_⟩
          obtain ⟨m'', rfl⟩ : ∃ z, m' = z + 1 := ⟨m' - 1, by omega⟩
          simp only [iterM, a2 cf' mf' n' hT hn]
          obtain ⟨e, s2⟩ := r
          cases e with
          | norm => exact absurd h (hne s2)
          | _ => rfl
    obtain ⟨L, a1, a2⟩ := go n s he
    exact ⟨L, a1, fun cf' mf' n' h hn => by simp only [evMC]; exact a2 cf' mf' n' n' h hn hn⟩
  | .exit i, n, s, r, he => ⟨[], Told.nil, fun cf' mf' n' _ _ => by simpa [evMC] using he⟩
  | .ret, n, s, r, he => ⟨[], Told.nil, fun cf' mf' n' _ _ => by simpa [evMC] using he⟩
  | .share r0 a, n, s, r, he => by simp [evMC] at he
  | .dat d a, n, s, r, he => by simp [evMC] at he
end

/-! ### limits -/
def Mono {α : Type} (g : Nat → Option α) : Prop := ∀ n m r, g n = some r → n ≤ m → g m = some r
open Classical in
noncomputable def lm {α : Type} (g : Nat → Option α) : Option α := if h : ∃ r n, g n = some r then some (Classical.choose h) else none
theorem lm_iff {α : Type} {g : Nat → Option α} (hg : Mono g) (r : α) : lm g = some r ↔ ∃ n, g n = some r := by
  unfold lm
  split
  · rename_i h
    obtain ⟨k, h1⟩ := Classical.choose_spec h
    constructor
    · intro e
      simp only [Option.some.injEq] at e
      exact ⟨k, e ▸ h1⟩
    · rintro ⟨n, hn⟩
      have e1 := hg _ (max n k) _ h1 (by omega)
      have e2 := hg _ (max n k) _ hn (by omega)
      rw [e1] at e2
      exact e2
  · rename_i h
    constructor
    · intro e; cases e
    · rintro ⟨n, hn⟩; exact absurd ⟨r, n, hn⟩ h
theorem lm_eq {α : Type} {g : Nat → Option α} (hg : Mono g) {o : Option α} (h1 : ∀ r n, g n = some r → o = some r) (h2 : ∀ r, o = some r → ∃ n, g n = some r) : lm g = o := by
  apply Option.ext
  intro r
  rw [lm_iff hg]
  exact ⟨fun ⟨n, hn⟩ => h1 r n hn, h2 r⟩

section
variable (T : Nat → Option KF)
theorem evF_mono : ∀ (n n' f : Nat) (a : List A) (r : List A × List A), evF T n f a = some r → n ≤ n' → evF T n' f a = some r
  | 0, _, _, _, _, h, _ => by simp [evF] at h
  | n + 1, n', f, a, r, h, hn => by
    obtain ⟨m, rfl⟩ : ∃ m, n' = m + 1 := ⟨n' - 1, by omega⟩
    simp only [evF] at h ⊢
    split at h
    · cases h
    · rename_i kf hkf
      obtain ⟨L, a1, a2⟩ := runF_dep h
      refine a2 (evF T m) _ m (fun t ht => ?_) (by omega)
      have := a1 t ht
      cases t with
      | c f a r => exact evF_mono n m _ _ _ this (by omega)
      | m f g ds q r => cases this
/-- what the function answers at some fuel -/
noncomputable def lim : Cf := fun f a => lm fun n => evF T n f a
theorem lim_iff (f : Nat) (a : List A) (r : List A × List A) : lim T f a = some r ↔ ∃ n, evF T n f a = some r := lm_iff (fun n m r h hn => evF_mono T n m f a r h hn) r

def outA1 (cells : List D) : Option (List (List D) × Int) → Option (List D × Int)
  | some ([cells'], q') => some (cells', q')
  | _ => none
def outL1 (k : Nat) (fl : Bool) : Option (List (List D) × Int) → Option (List D × Int)
  | some (es', q') => some ([.list k fl es'], q')
  | none => none
/-- a function that marks, its parts given -/
def runM (g : Bool → Nat → List KI → MS → Option MS) (h : Bool → Nat → K → MS → Option (Ex × MS)) (kf : KF) (ag : Bool) (cells : List D) (q : Int) : Option (List D × Int) :=
  match kf with
  | ⟨2, body, [.t r]⟩ =>
      if ag then (match body with
        | .seq (.reg (⟨some b, .box (.s 0), none⟩ :: is) kp) body' =>
          (match g false cells.length is (MS.putS ⟨⟨[(1, .d (.int .i64 q))], [], []⟩, [], [cells]⟩ b (.ep 0 0)) with
          | some m => outA1 cells (outM r (h false cells.length body' (m.keep kp)))
          | none => none)
        | _ => none)
      else (match cells with
        | [.list k fl es] => outL1 k fl (outM r (h true k body ⟨⟨[(1, .d (.int .i64 q))], [], []⟩, [(0, .lst)], es⟩))
        | _ => none)
  | _ => none
theorem evM_run (n f : Nat) (ag : Bool) (cells : List D) (q : Int) : evM T (n + 1) f ag cells q = match T f with
    | some kf => runM (fun own k => evMs (evF T n) (evM T n) own k) (fun own k => evMC (evF T n) (evM T n) own k n) kf ag cells q
    | none => none := by
  simp only [evM]
  cases hT : T f with
  | none => rfl
  | some kf =>
    dsimp only
    unfold runM
    rcases kf with ⟨np, body, res⟩
    dsimp only
    split
    · split
      · split
        · split
          · rename_i m hm
            simp only [outA1]
            split <;> simp_all
          · simp_all
        · simp_all
      · split
        · simp only [outL1]
          split <;> simp_all
        · simp_all
    · simp_all
end
end Go.Proofs.Ytmaigpiappmpcaa
