/- What the law's proof needs of M9. -/
import Derived.Test.YtbbnpipmjadpoaaTrKM8
namespace Go.Proofs.Ytbbnpipmjadpoaa.M
open Go Go.RowKit Go.Proofs.Ytbbnpipmjadpoaa.P Go.Proofs.YtbbnpipmjadpoaaW.PrintWords Go.Proofs.YtbbnpipmjadpoaaW.PrintMore
theorem ediv_mono {a a' b b' : Int} (h0 : 0 ≤ a) (h1 : a ≤ a') (h2 : 0 < b') (h3 : b' ≤ b) : a / b ≤ a' / b' := by
  rw [Int.le_ediv_iff_mul_le h2]
  have e1 : a / b * b ≤ a := Int.ediv_mul_le a (by omega)
  have e2 : 0 ≤ a / b := Int.ediv_nonneg h0 (by omega)
  have e3 : a / b * b' ≤ a / b * b := Int.mul_le_mul_of_nonneg_left h3 e2
  omega
theorem tdiv_pos {a b : Int} (h : 0 ≤ a) : Int.tdiv a b = a / b := Int.tdiv_eq_ediv_of_nonneg h
theorem tdiv_neg' {a b : Int} (h : a ≤ 0) : Int.tdiv a b = -((-a) / b) := by
  rw [← Int.tdiv_eq_ediv_of_nonneg (by omega : 0 ≤ -a), Int.neg_tdiv, Int.neg_neg]
theorem tdiv_ge0 {a b : Int} (h : 0 ≤ a) (hb : 0 ≤ b) : 0 ≤ Int.tdiv a b := by rw [tdiv_pos h]; exact Int.ediv_nonneg h hb
theorem tdiv_le0 {a b : Int} (h : a ≤ 0) (hb : 0 ≤ b) : Int.tdiv a b ≤ 0 := by
  rw [tdiv_neg' h]
  have := Int.ediv_nonneg (by omega : 0 ≤ -a) hb
  omega
theorem tdiv_size (x y : Int) : (Int.tdiv x y).natAbs ≤ x.natAbs := by rw [Int.natAbs_tdiv]; exact Nat.div_le_self _ _
/-- the corners of a quotient by what lies above 0 -/
theorem dv_low {p d : Int × Int} (hp : S p) (hd1 : 1 ≤ d.1) (hd2 : d.2 ≤ 4611686018427387904) {x y : Int} (hx : In p x) (hy : In d y) (b : y < 4611686018427387904) : (dv p.1 d.1 ≤ Int.tdiv x y ∨ dv p.1 d.2 ≤ Int.tdiv x y) ∧ (Int.tdiv x y ≤ dv p.2 d.1 ∨ Int.tdiv x y ≤ dv p.2 d.2) := by
  have hp' := hp
  unfold S at hp'
  unfold In at hx hy
  have f1 := fitm_id (a := p.1) (by omega) (by omega)
  have f2 := fitm_id (a := p.2) (by omega) (by omega)
  have f3 := fitm_id (a := d.1) (by omega) (by omega)
  have f4 := fitm_id (a := d.2) (by omega) (by omega)
  unfold dv
  rw [f1, f2, f3, f4]
  constructor
  · by_cases g : p.1 ≥ 0
    · right
      by_cases g1 : d.2 = 0 ∨ d.2 = 4611686018427387904 ∨ d.2 = -4611686018427387904 ∨ p.1 = 0
      · rw [if_pos g1]; exact tdiv_ge0 (by omega) (by omega)
      · rw [if_neg g1, if_neg (by omega), tdw (by omega) (by omega), tdiv_pos g, tdiv_pos (by omega)]
        exact ediv_mono g hx.1 (by omega) hy.2
    · left
      have g1 : ¬ (d.1 = 0 ∨ d.1 = 4611686018427387904 ∨ d.1 = -4611686018427387904 ∨ p.1 = 0) := by omega
      rw [if_neg g1]
      by_cases g2 : p.1 = 4611686018427387904 ∨ p.1 = -4611686018427387904
      · rw [if_pos g2, decide_eq_true (by omega : p.1 < 0), decide_eq_false (by omega), if_neg (by decide)]
        have := tdiv_size x y
        omega
      · rw [if_neg g2, tdw (by omega) (by omega)]
        by_cases g3 : 0 ≤ x
        · have e1 := tdiv_ge0 (b := y) g3 (by omega)
          have e2 := tdiv_le0 (a := p.1) (b := d.1) (by omega) (by omega)
          omega
        · rw [tdiv_neg' (by omega : p.1 ≤ 0), tdiv_neg' (by omega : x ≤ 0)]
          have := ediv_mono (a := -x) (a' := -p.1) (b := y) (b' := d.1) (by omega) (by omega) (by omega) hy.1
          omega
  · by_cases g : p.2 ≤ 0
    · right
      by_cases g1 : d.2 = 0 ∨ d.2 = 4611686018427387904 ∨ d.2 = -4611686018427387904 ∨ p.2 = 0
      · rw [if_pos g1]; exact tdiv_le0 (by omega) (by omega)
      · rw [if_neg g1, if_neg (by omega), tdw (by omega) (by omega), tdiv_neg' g, tdiv_neg' (by omega)]
        have := ediv_mono (a := -p.2) (a' := -x) (b := d.2) (b' := y) (by omega) (by omega) (by omega) hy.2
        omega
    · left
      have g1 : ¬ (d.1 = 0 ∨ d.1 = 4611686018427387904 ∨ d.1 = -4611686018427387904 ∨ p.2 = 0) := by omega
      rw [if_neg g1]
      by_cases g2 : p.2 = 4611686018427387904 ∨ p.2 = -4611686018427387904
      · rw [if_pos g2, decide_eq_false (by omega : ¬ p.2 < 0), decide_eq_false (by omega), if_pos (by decide)]
        have := tdiv_size x y
        omega
      · rw [if_neg g2, tdw (by omega) (by omega)]
        by_cases g3 : x ≤ 0
        · have e1 := tdiv_le0 (b := y) g3 (by omega)
          have e2 := tdiv_ge0 (a := p.2) (b := d.1) (by omega) (by omega)
          omega
        · rw [tdiv_pos (by omega : 0 ≤ p.2), tdiv_pos (by omega : 0 ≤ x)]
          exact ediv_mono (by omega) hx.2 (by omega) hy.1
theorem dv_neg (a b : Int) (h1 : -4611686018427387904 ≤ b) (h2 : b ≤ 4611686018427387904) : dv a (-b) = -(dv a b) := by
  unfold dv
  rw [fitm_id (a := -b) (by omega) (by omega), fitm_id h1 h2]
  obtain ⟨f1, f2⟩ := fitm_le a
  generalize fitm a = x at *
  by_cases g1 : b = 0 ∨ b = 4611686018427387904 ∨ b = -4611686018427387904 ∨ x = 0
  · rw [if_pos g1, if_pos (by omega)]; rfl
  · rw [if_neg g1, if_neg (by omega)]
    by_cases g2 : x = 4611686018427387904 ∨ x = -4611686018427387904
    · rw [if_pos g2, if_pos g2]
      by_cases g3 : b < 0
      · rw [decide_eq_true g3, decide_eq_false (by omega : ¬ -b < 0)]
        cases decide (x < 0) <;> rfl
      · rw [decide_eq_false g3, decide_eq_true (by omega : -b < 0)]
        cases decide (x < 0) <;> rfl
    · rw [if_neg g2, if_neg g2, tdw (by omega) (by omega), tdw (by omega) (by omega), Int.tdiv_neg]
theorem dq_In {p d : Int × Int} (hp : S p) {x y : Int} (hx : In p x) (hy : In d y) (hd : (1 ≤ d.1 ∧ d.2 ≤ 4611686018427387904) ∨ (d.2 ≤ -1 ∧ -4611686018427387904 ≤ d.1)) (b : -4611686018427387904 < y ∧ y < 4611686018427387904) (bx : -4611686018427387904 ≤ x ∧ x ≤ 4611686018427387904) : In (dq p d) (Int.tdiv x y) := by
  have hs := tdiv_size x y
  unfold dq
  have hy' := hy
  unfold In at hy'
  rw [if_neg (by omega)]
  unfold hl
  rcases hd with ⟨h1, h2⟩ | ⟨h1, h2⟩
  · obtain ⟨l1, l2⟩ := dv_low hp h1 h2 hx hy b.2
    exact In_C (by omega) (by omega) (by omega) (by omega)
  · have hyn : In (-d.2, -d.1) (-y) := by unfold In; dsimp only; omega
    obtain ⟨l1, l2⟩ := dv_low (d := (-d.2, -d.1)) hp (by dsimp only; omega) (by dsimp only; omega) hx hyn (by omega)
    dsimp only at l1 l2
    rw [dv_neg p.1 d.1 (by omega) (by omega), dv_neg p.1 d.2 (by omega) (by omega), Int.tdiv_neg] at l1
    rw [dv_neg p.2 d.1 (by omega) (by omega), dv_neg p.2 d.2 (by omega) (by omega), Int.tdiv_neg] at l2
    exact In_C (by omega) (by omega) (by omega) (by omega)
theorem In_none {p : Int × Int} {x : Int} (h : In p x) : ¬ p.1 > p.2 := by unfold In at h; omega
theorem DV_In {p q : Int × Int} (hp : S p) (hq : S q) {x y : Int} (hx : In p x) (hy : In q y) (h0 : y ≠ 0) (b : -4611686018427387904 < y ∧ y < 4611686018427387904) (bx : -4611686018427387904 ≤ x ∧ x ≤ 4611686018427387904) : In (DV p q) (Int.tdiv x y) := by
  unfold DV
  obtain ⟨n1, n2, n3, n4⟩ := W_le (W_ng (Or.inr hq))
  obtain ⟨s1, s2, s3, s4⟩ := W_le (W_ps (Or.inr hq))
  by_cases g : y < 0
  · have hn : In (ng q) y := In_me hy (by unfold In; dsimp only; omega)
    have := ng_le (In_none hn)
    exact In_jn1 (dq_In hp hx hn (Or.inr ⟨by omega, by omega⟩) b bx)
  · have hn : In (ps q) y := In_me hy (by unfold In; dsimp only; omega)
    have := ps_ge (In_none hn)
    exact In_jn2 (dq_In hp hx hn (Or.inl ⟨by omega, by omega⟩) b bx)
/-- a remainder: its sign and its size -/
theorem tmod_facts (x y : Int) (h : y ≠ 0) : (0 ≤ x → 0 ≤ Int.tmod x y ∧ Int.tmod x y ≤ x) ∧ (x ≤ 0 → x ≤ Int.tmod x y ∧ Int.tmod x y ≤ 0) ∧ (Int.tmod x y).natAbs < y.natAbs := by
  have hn : (Int.tmod x y).natAbs = x.natAbs % y.natAbs := Int.natAbs_tmod x y
  have hl : x.natAbs % y.natAbs < y.natAbs := Nat.mod_lt _ (by omega)
  have hm : x.natAbs % y.natAbs ≤ x.natAbs := Nat.mod_le _ _
  refine ⟨fun h1 => ?_, fun h1 => ?_, by omega⟩
  · have := Int.tmod_nonneg y h1
    omega
  · have h2 := Int.tmod_nonneg (a := -x) y (by omega)
    rw [Int.neg_tmod] at h2
    omega
theorem tdiv_mono {a b n : Int} (hn : 0 < n) (h : a ≤ b) : Int.tdiv a n ≤ Int.tdiv b n := by
  by_cases h1 : 0 ≤ a
  · rw [tdiv_pos h1, tdiv_pos (by omega)]
    exact ediv_mono h1 h hn (Int.le_refl _)
  · by_cases h2 : 0 ≤ b
    · have e1 := tdiv_le0 (a := a) (b := n) (by omega) (by omega)
      have e2 := tdiv_ge0 (a := b) (b := n) h2 (by omega)
      omega
    · rw [tdiv_neg' (by omega : a ≤ 0), tdiv_neg' (by omega : b ≤ 0)]
      have := ediv_mono (a := -b) (a' := -a) (b := n) (b' := n) (by omega) (by omega) hn (Int.le_refl _)
      omega
theorem sz_le {q : Int × Int} (_ : W q) {y : Int} (hy : In q y) (h0 : y ≠ 0) (b : -4611686018427387904 < y ∧ y < 4611686018427387904) : ¬ ((ng q).1 > (ng q).2 ∧ (ps q).1 > (ps q).2) ∧ szn q ≤ (if y < 0 then -y else y) ∧ (if y < 0 then -y else y) ≤ szm q := by
  unfold szn szm
  by_cases g : y < 0
  · have hn : In (ng q) y := In_me hy (by unfold In; dsimp only; omega)
    have h1 := In_none hn
    unfold In at hn
    rw [if_neg h1, if_neg h1, if_pos g]
    refine ⟨fun x => h1 x.1, ?_, ?_⟩ <;> split <;> omega
  · have hn : In (ps q) y := In_me hy (by unfold In; dsimp only; omega)
    have h1 := In_none hn
    unfold In at hn
    rw [if_neg h1, if_neg h1, if_neg g]
    refine ⟨fun x => h1 x.2, ?_, ?_⟩ <;> split <;> omega
theorem MD_In {p q : Int × Int} (hp : S p) (hq : S q) {x y : Int} (hx : In p x) (hy : In q y) (h0 : y ≠ 0) (b : -4611686018427387904 < y ∧ y < 4611686018427387904) (bx : -4611686018427387904 ≤ x ∧ x ≤ 4611686018427387904) : In (MD p q) (Int.tmod x y) := by
  obtain ⟨hb, z1, z2⟩ := sz_le (Or.inr hq) hy h0 b
  obtain ⟨z3, z4, z5, z6⟩ := szn_pos (Or.inr hq) hb
  obtain ⟨t1, t2, t3⟩ := tmod_facts x y h0
  have hp' := hp
  have hx' := hx
  unfold S at hp'
  unfold In at hx'
  unfold MD
  rw [if_neg hb]
  by_cases g1 : p.1 > -(szn q) ∧ p.2 < szn q
  · rw [if_pos g1]
    have hl : x.natAbs < y.natAbs := by split at z1 <;> omega
    have hn : (Int.tmod x y).natAbs = x.natAbs % y.natAbs := Int.natAbs_tmod x y
    rw [Nat.mod_eq_of_lt hl] at hn
    have : Int.tmod x y = x := by
      by_cases g : 0 ≤ x
      · have := t1 g; omega
      · have := t2 (by omega); omega
    rw [this]
    exact hx
  rw [if_neg g1]
  by_cases g2 : onz q = true ∧ p.1 > -4611686018427387904 ∧ p.2 < 4611686018427387904 ∧ Int.tdiv p.1 (szn q) = Int.tdiv p.2 (szn q)
  · rw [if_pos g2]
    obtain ⟨k1, k2, k3, k4⟩ := g2
    have k5 := (of_decide_eq_true k1).2
    have ey : Int.tmod x y = Int.tmod x (szn q) := by
      by_cases g : y < 0
      · rw [if_pos g] at z1 z2
        have : y = -(szn q) := by omega
        rw [this, Int.tmod_neg]
      · rw [if_neg g] at z1 z2
        have : y = szn q := by omega
        rw [this]
    have m1 := tdiv_mono (n := szn q) (by omega) hx.1
    have m2 := tdiv_mono (n := szn q) (by omega) hx.2
    have e1 := Int.mul_tdiv_add_tmod p.1 (szn q)
    have e2 := Int.mul_tdiv_add_tmod p.2 (szn q)
    have e3 := Int.mul_tdiv_add_tmod x (szn q)
    have e4 : Int.tdiv x (szn q) = Int.tdiv p.1 (szn q) := by omega
    rw [← k4] at e2
    rw [e4] at e3
    have bb : -4611686018427387904 ≤ Int.tmod x y ∧ Int.tmod x y ≤ 4611686018427387904 := by omega
    rw [ey] at bb ⊢
    generalize szn q * Int.tdiv p.1 (szn q) = T at *
    exact In_C (by omega) (by omega) bb.1 bb.2
  · rw [if_neg g2]
    have tt : (Int.tmod x y).natAbs ≤ (top q).natAbs ∧ 0 ≤ top q := by unfold top; split <;> (split at z2 <;> omega)
    refine In_C ?_ ?_ (by omega) (by omega)
    · by_cases g : p.1 < 0
      · rw [if_pos g]
        by_cases g3 : 0 ≤ x
        · have := t1 g3; omega
        · have := t2 (by omega); omega
      · rw [if_neg g]
        exact (t1 (by omega)).1
    · by_cases g : p.2 > 0
      · rw [if_pos g]
        by_cases g3 : 0 ≤ x
        · have := t1 g3; omega
        · have := t2 (by omega); omega
      · rw [if_neg g]
        exact (t2 (by omega)).2
end Go.Proofs.Ytbbnpipmjadpoaa.M
