/- What the law's proof needs of M2. -/
import Derived.Test.YtbbnpipmjadpoaaTrJM1
import Derived.Test.YtbbnpipmjadpoaaTrJU2
import Derived.Test.YtbbnpipmjadpoaaTrJU
import Derived.Test.YtbbnpipmjadpoaaTrJPx0
import Derived.Test.YtbbnpipmjadpoaaTrJPx2
import Derived.Test.YtbbnpipmjadpoaaTrJPx3
import Derived.Test.YtbbnpipmjadpoaaTrJPx10
namespace Go.Proofs.Ytbbnpipmjadpoaa.M
open Go Go.RowKit Go.Proofs.Ytbbnpipmjadpoaa.P Go.Proofs.YtbbnpipmjadpoaaW.PrintWords Go.Proofs.YtbbnpipmjadpoaaW.PrintMore
theorem mnm (a b : Int) : mn a b = min a b := by unfold mn; split <;> omega
theorem mxm (a b : Int) : mx a b = max a b := by unfold mx; split <;> omega
/-- an interval with numbers, as all functions take it -/
def S (p : Int × Int) : Prop := -4611686018427387904 ≤ p.1 ∧ p.1 < 4611686018427387904 ∧ -4611686018427387904 < p.2 ∧ p.2 ≤ 4611686018427387904 ∧ p.1 ≤ p.2
theorem C_cases (a b : Int) : (a > b ∧ C a b = (1, 0)) ∨ (a ≤ b ∧ S (C a b)) := by
  unfold C S
  by_cases h : a > b
  · left; rw [if_pos h]; exact ⟨h, rfl⟩
  · right; rw [if_neg h]
    unfold lo hi
    dsimp only
    (repeat' split) <;> omega
theorem C_S {p : Int × Int} (h : S p) : C p.1 p.2 = p := by
  unfold S at h
  unfold C lo hi
  rw [if_neg (by omega)]
  apply Prod.ext <;> dsimp only <;> (repeat' split) <;> omega
theorem C_two (a b : Int) : C (C a b).1 (C a b).2 = C a b := by
  rcases C_cases a b with ⟨h, e⟩ | ⟨h, e⟩
  · rw [e]; rfl
  · exact C_S e
def high (g : Int) (p q : Int × Int) : Int × Int := if q.1 > -4611686018427387904 then C (max p.1 (q.1 + g)) p.2 else p
def mt (p q : Int × Int) : Int × Int := C (max p.1 q.1) (min p.2 q.2)
def T4 (p q : Int × Int) : Int × Int × Int × Int := (p.1, p.2, q.1, q.2)
theorem w64 {x : Int} (h1 : -9223372036854775808 ≤ x) (h2 : x < 9223372036854775808) : wrap64 x = x := by unfold wrap64; omega
theorem meet1 (k : Nat) (a b c d : Int) : itv_Meet.f (k + 1) a b c d = some (if (C a b).1 > (C a b).2 ∨ (C c d).1 > (C c d).2 then (1, 0) else mt (C a b) (C c d)) := by
  unfold itv_Meet.f itv_None.f mt
  rw [sound1, sound1]
  simp only [Option.bind_some, itv_Meet.j0, itv_Empty.f, of1, mnm, mxm]
  by_cases h : (C a b).1 > (C a b).2
  · rw [decide_eq_true h, if_pos (Or.inl h)]; rfl
  · rw [decide_eq_false h]
    by_cases h2 : (C c d).1 > (C c d).2
    · rw [decide_eq_true h2, if_pos (Or.inr h2)]; rfl
    · have e : ¬ ((C a b).1 > (C a b).2 ∨ (C c d).1 > (C c d).2) := by omega
      rw [decide_eq_false h2, if_neg e]; rfl
end Go.Proofs.Ytbbnpipmjadpoaa.M
