/- What the law's proof needs of PureItvKeeps. -/
import Derived.Test.YtbbnpipmjadpoaaTrKM9
import Derived.Test.YtbbnpipmjadpoaaTrKPx54
namespace Go.Proofs.Ytbbnpipmjadpoaa.M
open Go Go.RowKit Go.Proofs.Ytbbnpipmjadpoaa.P Go.Proofs.YtbbnpipmjadpoaaW.PrintWords Go.Proofs.YtbbnpipmjadpoaaW.PrintMore
theorem szf {x : Int} (h1 : -4611686018427387904 ≤ x) (h2 : x ≤ 4611686018427387904) : gimballaw02_size.f x = some (if x < 0 then -x else x) := by
  unfold gimballaw02_size.f
  by_cases h : x < 0
  · rw [if_pos h, if_pos h, w64 (by omega) (by omega)]
  · rw [if_neg h, if_neg h]
theorem near_none (k : Nat) {a b : Int} (n : Int) (h : (C a b).1 > (C a b).2) : gimballaw02_near.f k a b n = some (0, false) := by
  unfold gimballaw02_near.f itv_None.f
  rw [of1, Option.bind_some, Option.bind_some, decide_eq_true h, if_pos rfl]
theorem near_j1 (k : Nat) (n : Int) {p : Int × Int} (hp : S p) (l h : Int) (hl : -4611686018427387904 < l ∧ l < 4611686018427387904) (hh : -4611686018427387904 < h ∧ h < 4611686018427387904)
    (hl2 : p.1 ≤ l) (hh2 : h ≤ p.2) : ∃ x, gimballaw02_near.j1 (k + 1) n l h p.1 p.2 = some (x, true) ∧ In p x := by
  simp only [gimballaw02_near.j1]
  unfold S at hp
  by_cases g : l > h
  · rw [if_pos g]
    by_cases g1 : p.1 = -4611686018427387904
    · rw [if_pos g1]; exact ⟨_, rfl, by unfold In; omega⟩
    · rw [if_neg g1]; exact ⟨_, rfl, by unfold In; omega⟩
  · rw [if_neg g, w64 (x := h - l) (by omega) (by omega), w64 (x := h - l + 1) (by omega) (by omega), u64_id (by omega) (by omega), if_neg (by omega)]
    have hn : 0 ≤ IntKind.u64.wrap n := by rw [IntKind.wrap_u64]; omega
    have m1 : 0 ≤ Int.tmod (IntKind.u64.wrap n) (h - l + 1) := Int.tmod_nonneg _ hn
    have m2 : Int.tmod (IntKind.u64.wrap n) (h - l + 1) < h - l + 1 := Int.tmod_lt_of_pos _ (by omega)
    rw [w64 (x := Int.tmod (IntKind.u64.wrap n) (h - l + 1)) (by omega) (by omega), w64 (by omega) (by omega)]
    exact ⟨_, rfl, by unfold In; omega⟩
theorem near_some (k : Nat) {a b : Int} (n : Int) (hp : S (C a b)) : ∃ x, gimballaw02_near.f (k + 2) a b n = some (x, true) ∧ In (C a b) x := by
  unfold gimballaw02_near.f itv_None.f
  rw [of1, Option.bind_some, Option.bind_some]
  generalize C a b = p at *
  have hp' := hp
  unfold S at hp'
  rw [decide_eq_false (by omega), if_neg (by decide)]
  have key : ∀ l, -4611686018427387904 < l ∧ l < 4611686018427387904 → p.1 ≤ l → ∃ x, gimballaw02_near.j0 (k + 2) n l p.2 p.1 p.2 = some (x, true) ∧ In p x := by
    intro l hl hl2
    simp only [gimballaw02_near.j0]
    by_cases g : p.2 = 4611686018427387904
    · rw [if_pos g]; exact near_j1 k n hp l _ hl (by omega) hl2 (by omega)
    · rw [if_neg g]; exact near_j1 k n hp l _ hl (by omega) hl2 (by omega)
  by_cases g : p.1 = -4611686018427387904
  · rw [if_pos g]; exact key _ (by omega) (by omega)
  · rw [if_neg g]; exact key _ (by omega) (by omega)
theorem aw (k : Nat) : gimballaw02_awake.f (k + 12) = some true := by
  induction k with
  | zero => decide +kernel
  | succ k ih => exact gimballaw02_awake.mono (k + 12) true ih
theorem op2S {o : Int × Int → Int × Int → Int × Int} {p q : Int × Int} (hp : S p) (hq : S q) : op2 o p q = o p q := by
  unfold S at hp hq
  unfold op2
  rw [if_neg (by omega)]
theorem keeps4 {a b c d : Int} (hp : S (C a b)) (hq : S (C c d)) {x y : Int} (hx : In (C a b) x) (hy : In (C c d) y) (bx : -2147483648 ≤ x ∧ x ≤ 2147483648) (bq : -2147483648 ≤ y ∧ y ≤ 2147483648) : gimballaw02_ItvKeeps.j4 20 x y false a b c d = some true := by
  have hxy : -4611686018427387904 ≤ x * y ∧ x * y ≤ 4611686018427387904 := by
    have l1 := lin x bq.1 bq.2
    omega
  simp only [gimballaw02_ItvKeeps.j4]
  rw [if_neg (by decide), w64 (x := x + y) (by omega) (by omega), w64 (x := x - y) (by omega) (by omega), w64 (x := x * y) (by omega) (by omega), w64 (x := -x) (by omega) (by omega)]
  have e1 : hs (C (op2 ad (C a b) (C c d)).1 (op2 ad (C a b) (C c d)).2) (x + y) = true := by
    rw [op2S hp hq, C_W (by unfold ad; exact W_C _ _)]
    exact hs_In (ad_In hp hq hx hy (by omega) (by omega))
  have e2 : hs (C (op2 ad (C a b) (ne (C c d))).1 (op2 ad (C a b) (ne (C c d))).2) (x - y) = true := by
    rw [op2S hp (S_ne hq), C_W (by unfold ad; exact W_C _ _), Int.sub_eq_add_neg]
    exact hs_In (ad_In hp (S_ne hq) hx (ne_In hy (by omega) (by omega)) (by omega) (by omega))
  have e3 : hs (C (op2 mu (C a b) (C c d)).1 (op2 mu (C a b) (C c d)).2) (x * y) = true := by
    rw [op2S hp hq, C_W (by unfold mu; exact W_hl _ _ _ _)]
    exact hs_In (mu_In hp hq hx hy hxy.1 hxy.2)
  have e4 : hs (C (ne (C a b)).1 (ne (C a b)).2) (-x) = true := by
    rw [C_W (W_ne (W_C a b))]
    exact hs_In (ne_In hx (by omega) (by omega))
  have e5 : hs (C (ab (C a b)).1 (ab (C a b)).2) (if x < 0 then -x else x) = true := by
    have hw : W (ab (C a b)) := by
      unfold ab
      split
      · exact W_C _ _
      · split <;> exact W_C _ _
    rw [C_W hw]
    exact hs_In (ab_In hx (by omega) (by omega))
  rw [addf 18, Option.bind_some, hasf, e1, Option.bind_some, if_pos rfl, subf 18, Option.bind_some, hasf, e2, Option.bind_some, if_pos rfl, mulf 16, Option.bind_some, hasf, e3, Option.bind_some, if_pos rfl, negf', Option.bind_some, hasf, e4, Option.bind_some, if_pos rfl,
    absf' 18, Option.bind_some, szf (by omega) (by omega), Option.bind_some, hasf, e5, Option.bind_some, if_pos rfl, aw 7, Option.bind_some]
theorem W_MM {p q : Int × Int} (hp : W p) : W (MM p q) := by
  unfold MM MD
  split
  · exact Or.inl ⟨rfl, rfl⟩
  · split
    · exact Or.inl ⟨rfl, rfl⟩
    · split
      · exact hp
      · split <;> exact W_C _ _
theorem W_DD {p q : Int × Int} : W (DD p q) := by
  unfold DD
  split
  · exact Or.inl ⟨rfl, rfl⟩
  · exact W_jn (W_dq _ _) (W_dq _ _)
theorem keeps3 {a b c d : Int} (hp : S (C a b)) (hq : S (C c d)) {x y : Int} (hx : In (C a b) x) (hy : In (C c d) y) (bx : -2147483648 ≤ x ∧ x ≤ 2147483648) (bq : -2147483648 ≤ y ∧ y ≤ 2147483648) : gimballaw02_ItvKeeps.j3 21 x y false a b c d = some true := by
  have h4 := keeps4 hp hq hx hy bx bq
  simp only [gimballaw02_ItvKeeps.j3]
  rw [if_neg (by decide)]
  by_cases h0 : y = 0
  · rw [if_pos h0]; exact h4
  · have hp' := hp
    have hq' := hq
    unfold S at hp' hq'
    have e1 : hs (C (DD (C a b) (C c d)).1 (DD (C a b) (C c d)).2) (Int.tdiv x y) = true := by
      rw [C_W W_DD]
      unfold DD
      rw [if_neg (by omega)]
      exact hs_In (DV_In hp hq hx hy h0 (by omega) (by omega))
    have e2 : hs (C (MM (C a b) (C c d)).1 (MM (C a b) (C c d)).2) (Int.tmod x y) = true := by
      rw [C_W (W_MM (W_C a b))]
      unfold MM
      rw [if_neg (by omega)]
      exact hs_In (MD_In hp hq hx hy h0 (by omega) (by omega))
    rw [if_neg h0, divf 18, Option.bind_some, tdw (by omega) (by omega), hasf, e1, Option.bind_some, if_pos rfl, modf 17, Option.bind_some, hasf, e2, Option.bind_some]
    exact h4
theorem W_tc (op : Int) {p q : Int × Int} (hp : S p) (hq : S q) : W (tc op p q).1 ∧ W (tc op p q).2 := by
  have wl : ∀ g, ∀ u v : Int × Int, S u → W (low g u v) := by
    intro g u v h
    unfold low
    split
    · exact W_C _ _
    · exact Or.inr h
  have wh : ∀ g, ∀ u v : Int × Int, S u → W (high g u v) := by
    intro g u v h
    unfold high
    split
    · exact W_C _ _
    · exact Or.inr h
  have ww : ∀ u v : Int × Int, S u → W (wo u v) := by
    intro u v h
    unfold wo
    (repeat' split) <;> first | exact W_C _ _ | exact Or.inr h
  unfold tc
  (repeat' split)
  · exact ⟨W_C _ _, W_C _ _⟩
  · exact ⟨ww _ _ hp, ww _ _ hq⟩
  · exact ⟨wh _ _ _ hp, wl _ _ _ hq⟩
  · exact ⟨wh _ _ _ hp, wl _ _ _ hq⟩
  · exact ⟨wl _ _ _ hp, wh _ _ _ hq⟩
  · exact ⟨wl _ _ _ hp, wh _ _ _ hq⟩
theorem keeps2 {a b c d : Int} (n : Int) (hp : S (C a b)) (hq : S (C c d)) {x y : Int} (hx : In (C a b) x) (hy : In (C c d) y) (bx : -2147483648 ≤ x ∧ x ≤ 2147483648) (bq : -2147483648 ≤ y ∧ y ≤ 2147483648) : gimballaw02_ItvKeeps.j2 22 n x y false a b c d = some true := by
  have h3 := keeps3 hp hq hx hy bx bq
  simp only [gimballaw02_ItvKeeps.j2]
  rw [if_neg (by decide)]
  have hn : 0 ≤ IntKind.u64.wrap n := by rw [IntKind.wrap_u64]; omega
  have m1 : 0 ≤ Int.tmod (IntKind.u64.wrap n) 6 := Int.tmod_nonneg _ hn
  have m2 : Int.tmod (IntKind.u64.wrap n) 6 < 6 := Int.tmod_lt_of_pos _ (by omega)
  rw [w64 (x := Int.tmod (IntKind.u64.wrap n) 6) (by omega) (by omega), w64 (by omega) (by omega)]
  have hop : 14 ≤ 14 + Int.tmod (IntKind.u64.wrap n) 6 ∧ 14 + Int.tmod (IntKind.u64.wrap n) 6 ≤ 19 := by omega
  generalize 14 + Int.tmod (IntKind.u64.wrap n) 6 = op at *
  rw [test1 14, Option.bind_some, holds1 12, Option.bind_some, hof, Option.bind_some]
  have hp' := hp
  have hq' := hq
  unfold S at hp' hq'
  have eH : HH op (C a b) (C c d) = (pr op (C a b) (C c d), pr (oth op) (C a b) (C c d)) := by
    unfold HH
    rw [if_neg (by omega), if_neg (by omega)]
  rw [eH]
  dsimp only
  by_cases hh : ho op x y = true
  · have ep := pr_In op hop hp hq hx hy hh (by omega) (by omega) (by omega) (by omega)
    obtain ⟨i1, i2⟩ := tc_In op hop hx hy hh (by omega) (by omega) (by omega) (by omega)
    obtain ⟨w1, w2⟩ := W_tc op hp hq
    have eT : TT op (C a b) (C c d) = T4 (tc op (C a b) (C c d)).1 (tc op (C a b) (C c d)).2 := by
      unfold TT
      rw [if_neg (by omega), if_neg (by omega), tt_pr op hp hq, if_pos ep]
    rw [if_pos hh, eT]
    unfold T4
    dsimp only
    rw [hasf, C_W w1, hs_In i1, Option.bind_some, if_pos rfl, hasf, C_W w2, hs_In i2, Option.bind_some, if_pos rfl, if_pos ep, Option.bind_some, if_pos hh]
    exact h3
  · have hh' : ho op x y = false := by simpa using hh
    obtain ⟨_, _, _, g4⟩ := oth_rd op hop
    have ep := pr_In (oth op) g4 hp hq hx hy (ho_oth op hop x y hh') (by omega) (by omega) (by omega) (by omega)
    rw [if_neg hh, Option.bind_some, if_neg hh, ep]
    exact h3
theorem keeps1 {a b c d : Int} (n : Int) (hp : S (C a b)) (hq : S (C c d)) {x y : Int} (hx : In (C a b) x) (hy : In (C c d) y) : gimballaw02_ItvKeeps.j1 23 n x y false a b c d = some true := by
  have hp' := hp
  have hq' := hq
  unfold S at hp' hq'
  have hx' := hx
  have hy' := hy
  unfold In at hx' hy'
  have jt : gimballaw02_ItvKeeps.j2 22 n x y true a b c d = some true := by
    simp only [gimballaw02_ItvKeeps.j2]
    rw [if_pos trivial, aw 9, Option.bind_some]
  simp only [gimballaw02_ItvKeeps.j1]
  rw [if_neg (by decide), szf (by omega) (by omega), Option.bind_some, szf (by omega) (by omega), Option.bind_some]
  by_cases g1 : (if x < 0 then -x else x) > 2147483648
  · rw [if_pos g1]; exact jt
  · rw [if_neg g1]
    by_cases g2 : (if y < 0 then -y else y) > 2147483648
    · rw [decide_eq_true g2]; exact jt
    · rw [decide_eq_false g2]
      exact keeps2 n hp hq hx hy (by split at g1 <;> omega) (by split at g2 <;> omega)
end Go.Proofs.Ytbbnpipmjadpoaa.M
namespace Go.Proofs.Ytbbnpipmjadpoaa.Pure
open Go Go.RowKit Go.Proofs.Ytbbnpipmjadpoaa.P Go.Proofs.YtbbnpipmjadpoaaW.PrintWords Go.Proofs.YtbbnpipmjadpoaaW.PrintMore Go.Proofs.Ytbbnpipmjadpoaa.M
theorem keeps_none {a b c d : Int} (w x y : Int) (h : (C a b).1 > (C a b).2 ∨ (C c d).1 > (C c d).2) : gimballaw02_ItvKeeps.j0 24 w x y true a b c d = some true := by
  simp only [gimballaw02_ItvKeeps.j0]
  have e : ∀ o, op2 o (C a b) (C c d) = (1, 0) := by intro o; unfold op2; rw [if_pos h]
  unfold itv_None.f
  rw [if_pos trivial, addf 22, Option.bind_some, Option.bind_some, e, decide_eq_true (by decide), if_pos rfl, mulf 20, Option.bind_some, Option.bind_some, e, decide_eq_true (by decide), if_pos rfl, aw 11, Option.bind_some]
theorem ItvKeeps : gimballaw02_ItvKeeps.Pure := by
  intro a b c d n m w _ _ _ _ _ _ _
  refine ⟨24, ?_⟩
  unfold gimballaw02_ItvKeeps.f
  by_cases h1 : (C a b).1 > (C a b).2
  · rw [near_none 24 n h1, Option.bind_some]
    by_cases h2 : (C c d).1 > (C c d).2
    · rw [near_none 24 m h2, Option.bind_some, if_neg (by decide), keeps_none _ _ _ (Or.inl h1)]
    · obtain ⟨y, hy, _⟩ := near_some 22 m (S_W (W_C c d) h2)
      rw [hy, Option.bind_some, if_neg (by decide), keeps_none _ _ _ (Or.inl h1)]
  · have hp := S_W (W_C a b) h1
    obtain ⟨x, hx, ix⟩ := near_some 22 n hp
    rw [hx, Option.bind_some]
    by_cases h2 : (C c d).1 > (C c d).2
    · rw [near_none 24 m h2, Option.bind_some, if_pos rfl]
      exact keeps_none _ _ _ (Or.inr h2)
    · have hq := S_W (W_C c d) h2
      obtain ⟨y, hy, iy⟩ := near_some 22 m hq
      rw [hy, Option.bind_some, if_pos rfl]
      show gimballaw02_ItvKeeps.j0 24 w x y false a b c d = some true
      simp only [gimballaw02_ItvKeeps.j0]
      have wj := C_W (W_jn (W_C a b) (W_C c d))
      rw [if_neg (by decide), hasf, hs_In ix, Option.bind_some, if_pos rfl, hasf, hs_In iy, Option.bind_some, if_pos rfl, joinf, Option.bind_some, hasf, wj, hs_In (In_jn1 ix), Option.bind_some, if_pos rfl, Option.bind_some, hasf, wj, hs_In (In_jn2 iy), Option.bind_some]
      exact keeps1 w hp hq ix iy
end Go.Proofs.Ytbbnpipmjadpoaa.Pure
