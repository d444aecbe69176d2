/- What the law's proof needs of M8. -/
import Derived.Test.YtbbnpipmjadpoaaTrJM2
import Derived.Test.YtbbnpipmjadpoaaTrJU2
import Derived.Test.YtbbnpipmjadpoaaTrJU
import Derived.Test.YtbbnpipmjadpoaaTrJPx0
import Derived.Test.YtbbnpipmjadpoaaTrJPx3
import Derived.Test.YtbbnpipmjadpoaaTrJPx2
import Derived.Test.YtbbnpipmjadpoaaTrJPx10
import Derived.Test.YtbbnpipmjadpoaaTrJM7
namespace Go.Proofs.Ytbbnpipmjadpoaa.M
open Go Go.RowKit Go.Proofs.Ytbbnpipmjadpoaa.P Go.Proofs.YtbbnpipmjadpoaaW.PrintWords Go.Proofs.YtbbnpipmjadpoaaW.PrintMore
def In (p : Int × Int) (x : Int) : Prop := p.1 ≤ x ∧ x ≤ p.2
theorem In_C {a b x : Int} (h1 : a ≤ x) (h2 : x ≤ b) (h3 : -4611686018427387904 ≤ x) (h4 : x ≤ 4611686018427387904) : In (C a b) x := by
  unfold In C lo hi
  rw [if_neg (by omega)]
  dsimp only
  (repeat' split) <;> omega
theorem In_jn1 {p q : Int × Int} {x : Int} (h : In p x) : In (jn p q) x := by
  unfold In jn at *
  rw [if_neg (by omega)]
  split
  · exact h
  · dsimp only; omega
theorem In_jn2 {p q : Int × Int} {x : Int} (h : In q x) : In (jn p q) x := by
  unfold In jn at *
  split
  · exact h
  · rw [if_neg (by omega)]; dsimp only; omega
theorem In_me {p q : Int × Int} {x : Int} (h1 : In p x) (h2 : In q x) : In (me p q) x := by
  unfold In me at *
  rw [if_neg (by omega)]
  dsimp only
  omega
/-- does a comparison hold -/
def ho (op x y : Int) : Bool := if op = 14 then x == y else if op = 15 then x != y else if op = 16 then decide (x < y) else if op = 17 then decide (x ≤ y) else if op = 18 then decide (x > y) else decide (x ≥ y)
theorem ab_In {p : Int × Int} {x : Int} (hx : In p x) (b1 : -4611686018427387904 ≤ x) (b2 : x ≤ 4611686018427387904) : In (ab p) (if x < 0 then -x else x) := by
  unfold ab
  unfold In at hx
  split
  · rw [if_neg (by omega)]; exact hx
  · split
    · by_cases h : x < 0
      · rw [if_pos h]; exact In_C (by omega) (by omega) (by omega) (by omega)
      · rw [if_neg h]; exact In_C (by omega) (by omega) (by omega) (by omega)
    · by_cases h : x < 0
      · rw [if_pos h]; exact In_C (by omega) (by omega) (by omega) (by omega)
      · rw [if_neg h]; exact In_C (by omega) (by omega) (by omega) (by omega)
theorem lin {a b t : Int} (c : Int) (h1 : a ≤ t) (h2 : t ≤ b) : min (c * a) (c * b) ≤ c * t ∧ c * t ≤ max (c * a) (c * b) := by
  by_cases h : 0 ≤ c
  · have := Int.mul_le_mul_of_nonneg_left h1 h
    have := Int.mul_le_mul_of_nonneg_left h2 h
    omega
  · have := Int.mul_le_mul_of_nonpos_left (by omega : c ≤ 0) h1
    have := Int.mul_le_mul_of_nonpos_left (by omega : c ≤ 0) h2
    omega
theorem mu_In {p q : Int × Int} (hp : S p) (hq : S q) {x y : Int} (hx : In p x) (hy : In q y) (b1 : -4611686018427387904 ≤ x * y) (b2 : x * y ≤ 4611686018427387904) : In (mu p q) (x * y) := by
  unfold mu hl mv
  unfold S at hp hq
  unfold In at hx hy
  rw [fitm_id (by omega) (by omega), fitm_id (a := p.2) (by omega) (by omega), fitm_id (a := q.1) (by omega) (by omega), fitm_id (a := q.2) (by omega) (by omega)]
  have l1 := lin y hx.1 hx.2
  have l2 := lin p.1 hy.1 hy.2
  have l3 := lin p.2 hy.1 hy.2
  rw [Int.mul_comm y p.1, Int.mul_comm y p.2, Int.mul_comm y x] at l1
  generalize x * y = t at *
  generalize p.1 * q.1 = c1 at *
  generalize p.1 * q.2 = c2 at *
  generalize p.2 * q.1 = c3 at *
  generalize p.2 * q.2 = c4 at *
  generalize p.1 * y = c5 at *
  generalize p.2 * y = c6 at *
  exact In_C (by omega) (by omega) b1 b2
end Go.Proofs.Ytbbnpipmjadpoaa.M
