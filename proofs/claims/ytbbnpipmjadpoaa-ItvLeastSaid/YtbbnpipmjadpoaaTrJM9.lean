/- What the law's proof needs of M9. -/
import Derived.Test.YtbbnpipmjadpoaaTrJM8
namespace Go.Proofs.Ytbbnpipmjadpoaa.M
open Go Go.RowKit Go.Proofs.Ytbbnpipmjadpoaa.P Go.Proofs.YtbbnpipmjadpoaaW.PrintWords Go.Proofs.YtbbnpipmjadpoaaW.PrintMore
theorem ediv_mono {a a' b b' : Int} (h0 : 0 ≤ a) (h1 : a ≤ a') (h2 : 0 < b') (h3 : b' ≤ b) : a / b ≤ a' / b' := by
  rw [Int.le_ediv_iff_mul_le h2]
  have e1 : a / b * b ≤ a := Int.ediv_mul_le a (by omega)
  have e2 : 0 ≤ a / b := Int.ediv_nonneg h0 (by omega)
  have e3 : a / b * b' ≤ a / b * b := Int.mul_le_mul_of_nonneg_left h3 e2
  omega
theorem tdiv_pos {a b : Int} (h : 0 ≤ a) : Int.tdiv a b = a / b := Int.tdiv_eq_ediv_of_nonneg h
theorem tdiv_neg' {a b : Int} (h : a ≤ 0) : Int.tdiv a b = -((-a) / b) := by
  rw [← Int.tdiv_eq_ediv_of_nonneg (by omega : 0 ≤ -a), Int.neg_tdiv, Int.neg_neg]
theorem tdiv_ge0 {a b : Int} (h : 0 ≤ a) (hb : 0 ≤ b) : 0 ≤ Int.tdiv a b := by rw [tdiv_pos h]; exact Int.ediv_nonneg h hb
theorem tdiv_le0 {a b : Int} (h : a ≤ 0) (hb : 0 ≤ b) : Int.tdiv a b ≤ 0 := by
  rw [tdiv_neg' h]
  have := Int.ediv_nonneg (by omega : 0 ≤ -a) hb
  omega
theorem tdiv_size (x y : Int) : (Int.tdiv x y).natAbs ≤ x.natAbs := by rw [Int.natAbs_tdiv]; exact Nat.div_le_self _ _
/-- the corners of a quotient by what lies above 0 -/
theorem dv_low {p d : Int × Int} (hp : S p) (hd1 : 1 ≤ d.1) (hd2 : d.2 ≤ 4611686018427387904) {x y : Int} (hx : In p x) (hy : In d y) (b : y < 4611686018427387904) : (dv p.1 d.1 ≤ Int.tdiv x y ∨ dv p.1 d.2 ≤ Int.tdiv x y) ∧ (Int.tdiv x y ≤ dv p.2 d.1 ∨ Int.tdiv x y ≤ dv p.2 d.2) := by
  have hp' := hp
  unfold S at hp'
  unfold In at hx hy
  have f1 := fitm_id (a := p.1) (by omega) (by omega)
  have f2 := fitm_id (a := p.2) (by omega) (by omega)
  have f3 := fitm_id (a := d.1) (by omega) (by omega)
  have f4 := fitm_id (a := d.2) (by omega) (by omega)
  unfold dv
  rw [f1, f2, f3, f4]
  constructor
  · by_cases g : p.1 ≥ 0
    · right
      by_cases g1 : d.2 = 0 ∨ d.2 = 4611686018427387904 ∨ d.2 = -4611686018427387904 ∨ p.1 = 0
      · rw [if_pos g1]; exact tdiv_ge0 (by omega) (by omega)
      · rw [if_neg g1, if_neg (by omega), tdw (by omega) (by omega), tdiv_pos g, tdiv_pos (by omega)]
        exact ediv_mono g hx.1 (by omega) hy.2
    · left
      have g1 : ¬ (d.1 = 0 ∨ d.1 = 4611686018427387904 ∨ d.1 = -4611686018427387904 ∨ p.1 = 0) := by omega
      rw [if_neg g1]
      by_cases g2 : p.1 = 4611686018427387904 ∨ p.1 = -4611686018427387904
      · rw [if_pos g2, decide_eq_true (by omega : p.1 < 0), decide_eq_false (by omega), if_neg (by decide)]
        have := tdiv_size x y
        omega
      · rw [if_neg g2, tdw (by omega) (by omega)]
        by_cases g3 : 0 ≤ x
        · have e1 := tdiv_ge0 (b := y) g3 (by omega)
          have e2 := tdiv_le0 (a := p.1) (b := d.1) (by omega) (by omega)
          omega
        · rw [tdiv_neg' (by omega : p.1 ≤ 0), tdiv_neg' (by omega : x ≤ 0)]
          have := ediv_mono (a := -x) (a' := -p.1) (b := y) (b' := d.1) (by omega) (by omega) (by omega) hy.1
          omega
  · by_cases g : p.2 ≤ 0
    · right
      by_cases g1 : d.2 = 0 ∨ d.2 = 4611686018427387904 ∨ d.2 = -4611686018427387904 ∨ p.2 = 0
      · rw [if_pos g1]; exact tdiv_le0 (by omega) (by omega)
      · rw [if_neg g1, if_neg (by omega), tdw (by omega) (by omega), tdiv_neg' g, tdiv_neg' (by omega)]
        have := ediv_mono (a := -p.2) (a' := -x) (b := d.2) (b' := y) (by omega) (by omega) (by omega) hy.2
        omega
    · left
      have g1 : ¬ (d.1 = 0 ∨ d.1 = 4611686018427387904 ∨ d.1 = -4611686018427387904 ∨ p.2 = 0) := by omega
      rw [if_neg g1]
      by_cases g2 : p.2 = 4611686018427387904 ∨ p.2 = -4611686018427387904
      · rw [if_pos g2, decide_eq_false (by omega : ¬ p.2 < 0), decide_eq_false (by omega), if_pos (by decide)]
        have := tdiv_size x y
        omega
      · rw [if_neg g2, tdw (by omega) (by omega)]
        by_cases g3 : x ≤ 0
        · have e1 := tdiv_le0 (b := y) g3 (by omega)
          have e2 := tdiv_ge0 (a := p.2) (b := d.1) (by omega) (by omega)
          omega
        · rw [tdiv_pos (by omega : 0 ≤ p.2), tdiv_pos (by omega : 0 ≤ x)]
          exact ediv_mono (by omega) hx.2 (by omega) hy.1
theorem dv_neg (a b : Int) (h1 : -4611686018427387904 ≤ b) (h2 : b ≤ 4611686018427387904) : dv a (-b) = -(dv a b) := by
  unfold dv
  rw [fitm_id (a := -b) (by omega) (by omega), fitm_id h1 h2]
  obtain ⟨f1, f2⟩ := fitm_le a
  generalize fitm a = x at *
  by_cases g1 : b = 0 ∨ b = 4611686018427387904 ∨ b = -4611686018427387904 ∨ x = 0
  · rw [if_pos g1, if_pos (by omega)]; rfl
  · rw [if_neg g1, if_neg (by omega)]
    by_cases g2 : x = 4611686018427387904 ∨ x = -4611686018427387904
    · rw [if_pos g2, if_pos g2]
      by_cases g3 : b < 0
      · rw [decide_eq_true g3, decide_eq_false (by omega : ¬ -b < 0)]
        cases decide (x < 0) <;> rfl
      · rw [decide_eq_false g3, decide_eq_true (by omega : -b < 0)]
        cases decide (x < 0) <;> rfl
    · rw [if_neg g2, if_neg g2, tdw (by omega) (by omega), tdw (by omega) (by omega), Int.tdiv_neg]
theorem dq_In {p d : Int × Int} (hp : S p) {x y : Int} (hx : In p x) (hy : In d y) (hd : (1 ≤ d.1 ∧ d.2 ≤ 4611686018427387904) ∨ (d.2 ≤ -1 ∧ -4611686018427387904 ≤ d.1)) (b : -4611686018427387904 < y ∧ y < 4611686018427387904) (bx : -4611686018427387904 ≤ x ∧ x ≤ 4611686018427387904) : In (dq p d) (Int.tdiv x y) := by
  have hs := tdiv_size x y
  unfold dq
  have hy' := hy
  unfold In at hy'
  rw [if_neg (by omega)]
  unfold hl
  rcases hd with ⟨h1, h2⟩ | ⟨h1, h2⟩
  · obtain ⟨l1, l2⟩ := dv_low hp h1 h2 hx hy b.2
    exact In_C (by omega) (by omega) (by omega) (by omega)
  · have hyn : In (-d.2, -d.1) (-y) := by unfold In; dsimp only; omega
    obtain ⟨l1, l2⟩ := dv_low (d := (-d.2, -d.1)) hp (by dsimp only; omega) (by dsimp only; omega) hx hyn (by omega)
    dsimp only at l1 l2
    rw [dv_neg p.1 d.1 (by omega) (by omega), dv_neg p.1 d.2 (by omega) (by omega), Int.tdiv_neg] at l1
    rw [dv_neg p.2 d.1 (by omega) (by omega), dv_neg p.2 d.2 (by omega) (by omega), Int.tdiv_neg] at l2
    exact In_C (by omega) (by omega) (by omega) (by omega)
theorem In_none {p : Int × Int} {x : Int} (h : In p x) : ¬ p.1 > p.2 := by unfold In at h; omega
theorem DV_In {p q : Int × Int} (hp : S p) (hq : S q) {x y : Int} (hx : In p x) (hy : In q y) (h0 : y ≠ 0) (b : -4611686018427387904 < y ∧ y < 4611686018427387904) (bx : -4611686018427387904 ≤ x ∧ x ≤ 4611686018427387904) : In (DV p q) (Int.tdiv x y) := by
  unfold DV
  obtain ⟨n1, n2, n3, n4⟩ := W_le (W_ng (Or.inr hq))
  obtain ⟨s1, s2, s3, s4⟩ := W_le (W_ps (Or.inr hq))
  by_cases g : y < 0
  · have hn : In (ng q) y := In_me hy (by unfold In; dsimp only; omega)
    have := ng_le (In_none hn)
    exact In_jn1 (dq_In hp hx hn (Or.inr ⟨by omega, by omega⟩) b bx)
  · have hn : In (ps q) y := In_me hy (by unfold In; dsimp only; omega)
    have := ps_ge (In_none hn)
    exact In_jn2 (dq_In hp hx hn (Or.inl ⟨by omega, by omega⟩) b bx)
end Go.Proofs.Ytbbnpipmjadpoaa.M
