/- What the law's proof needs of M1. -/
import Derived.Test.YtbbnpipmjadpoaaTrJU2
import Derived.Test.YtbbnpipmjadpoaaTrJU
import Derived.Test.YtbbnpipmjadpoaaTrJPx0
import Derived.Test.YtbbnpipmjadpoaaTrJPx1
import Derived.Test.YtbbnpipmjadpoaaTrJPx2
import Derived.Test.YtbbnpipmjadpoaaTrJPx3
namespace Go.Proofs.Ytbbnpipmjadpoaa.M
open Go Go.RowKit Go.Proofs.Ytbbnpipmjadpoaa.P Go.Proofs.YtbbnpipmjadpoaaW.PrintWords Go.Proofs.YtbbnpipmjadpoaaW.PrintMore
def lo (a : Int) : Int := if a ≥ 4611686018427387904 then 4611686018427387903 else if a ≤ -4611686018427387904 then -4611686018427387904 else a
def hi (b : Int) : Int := if b ≥ 4611686018427387904 then 4611686018427387904 else if b ≤ -4611686018427387904 then -4611686018427387903 else b
def C (a b : Int) : Int × Int := if a > b then (1, 0) else (lo a, hi b)
theorem of1 (a b : Int) : itv_Of.f a b = some (C a b) := by
  unfold itv_Of.f itv_Empty.f C lo hi mx mn
  simp only [Option.bind_some]
  by_cases h : a > b
  · rw [if_pos h, if_pos h]
  · rw [if_neg h, if_neg h]
    by_cases h1 : a ≥ 4611686018427387904
    · by_cases h2 : b ≤ -4611686018427387904
      · omega
      · rw [if_pos h1, if_pos h1, if_neg h2, if_neg h2, if_pos (by omega : b ≥ 4611686018427387904)]
        congr 1; congr 1
        split <;> omega
    · rw [if_neg h1, if_neg h1]
      by_cases h2 : b ≤ -4611686018427387904
      · rw [if_pos h2, if_neg (by omega : ¬ b ≥ 4611686018427387904), if_pos h2]
        congr 1; congr 1
        (repeat' split) <;> omega
      · rw [if_neg h2, if_neg h2]
        congr 1; congr 1 <;> ((repeat' split) <;> omega)
theorem sound1 (a b : Int) : itv_sound.f a b = some (C a b) := by unfold itv_sound.f; rw [of1]; rfl
end Go.Proofs.Ytbbnpipmjadpoaa.M
