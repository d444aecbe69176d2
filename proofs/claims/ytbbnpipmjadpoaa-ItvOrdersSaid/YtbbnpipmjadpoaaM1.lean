/- What Of, Has and Type answer of any two numbers, on either side. -/
import Derived.Test.YtbbnpipmjadpoaaPx5
namespace Go.Proofs.Ytbbnpipmjadpoaa.M
open Go Go.RowKit Go.Proofs.Ytbbnpipmjadpoaa.P Go.Proofs.YtbbnpipmjadpoaaW.PrintWords Go.Proofs.YtbbnpipmjadpoaaW.PrintMore

def lo (a : Int) : Int := if a ≥ 4611686018427387904 then 4611686018427387903 else if a ≤ -4611686018427387904 then -4611686018427387904 else a
def hi (b : Int) : Int := if b ≥ 4611686018427387904 then 4611686018427387904 else if b ≤ -4611686018427387904 then -4611686018427387903 else b
def C (a b : Int) : Int × Int := if a > b then (1, 0) else (lo a, hi b)

theorem of1 (a b : Int) : itv_Of.f a b = some (C a b) := by
  unfold itv_Of.f itv_Empty.f C lo hi mx mn
  simp only [Option.bind_some]
  by_cases h : a > b
  · rw [if_pos h, if_pos h]
  · rw [if_neg h, if_neg h]
    by_cases h1 : a ≥ 4611686018427387904
    · by_cases h2 : b ≤ -4611686018427387904
      · omega
      · rw [if_pos h1, if_pos h1, if_neg h2, if_neg h2, if_pos (by omega : b ≥ 4611686018427387904)]
        congr 1; congr 1
        split <;> omega
    · rw [if_neg h1, if_neg h1]
      by_cases h2 : b ≤ -4611686018427387904
      · rw [if_pos h2, if_neg (by omega : ¬ b ≥ 4611686018427387904), if_pos h2]
        congr 1; congr 1
        (repeat' split) <;> omega
      · rw [if_neg h2, if_neg h2]
        congr 1; congr 1 <;> ((repeat' split) <;> omega)
theorem of2 (k : Nat) (a b : Int) : gimbalref02_Of.f (k + 2) a b = some (C a b) := by
  unfold gimbalref02_Of.f gimbalref02_Empty.f C lo hi
  simp only [Option.bind_some, gimbalref02_Of.j0, gimbalref02_Of.j1]
  by_cases h : a > b
  · rw [if_pos h, if_pos h]
  · rw [if_neg h, if_neg h]
    (repeat' split) <;> first | rfl | (exfalso; omega)
theorem sound1 (a b : Int) : itv_sound.f a b = some (C a b) := by unfold itv_sound.f; rw [of1]; rfl
theorem norm2 (k : Nat) (a b : Int) : gimbalref02_norm.f (k + 2) a b = some (C a b) := by unfold gimbalref02_norm.f; rw [of2]; rfl
theorem has_eq (k : Nat) (a b x : Int) : gimbalref02_Has.f (k + 2) a b x = itv_Has.f a b x := by
  unfold gimbalref02_Has.f itv_Has.f itv_None.f
  rw [sound1, norm2]
  simp only [Option.bind_some]
  by_cases h : (C a b).1 ≤ (C a b).2
  · rw [if_pos h, decide_eq_false (by omega : ¬ (C a b).1 > (C a b).2)]
    rfl
  · rw [if_neg h, decide_eq_true (by omega : (C a b).1 > (C a b).2)]
    rfl
theorem has_some (a b x : Int) : ∃ r, itv_Has.f a b x = some r := by
  unfold itv_Has.f itv_None.f
  rw [sound1]
  simp only [Option.bind_some]
  (repeat' split) <;> exact ⟨_, rfl⟩
theorem has_self (a b : Int) : itv_Has.f a b a = some (decide (a ≤ b)) := by
  unfold itv_Has.f itv_None.f
  rw [sound1]
  simp only [Option.bind_some]
  by_cases h : a > b
  · rw [C, if_pos h, if_pos (by simp), decide_eq_false (by omega)]
  · rw [C, if_neg h]
    dsimp only
    have h2 : decide (lo a > hi b) = false := by
      apply decide_eq_false
      unfold lo hi
      (repeat' split) <;> omega
    have h3 : hi b = 4611686018427387904 ∨ a ≤ hi b := by
      unfold hi
      (repeat' split) <;> omega
    have h4 : lo a = -4611686018427387904 ∨ lo a ≤ a := by
      unfold lo
      (repeat' split) <;> omega
    rw [h2, decide_eq_true (by omega : a ≤ b)]
    simp only [Bool.false_eq_true, if_false]
    (repeat' split) <;> first | rfl | (congr 1; simp; omega) | (exfalso; omega)
theorem type_eq (a : Int) : ∃ r, itv_Type.f a = some r ∧ gimbalref02_Type.f a = some r := by
  unfold gimbalref02_Type.f
  by_cases h1 : a = 1
  · subst h1; exact ⟨(-128, 127), by decide +kernel, by decide +kernel⟩
  · by_cases h2 : a = 2
    · subst h2; exact ⟨(-32768, 32767), by decide +kernel, by decide +kernel⟩
    · by_cases h3 : a = 3
      · subst h3; exact ⟨(-2147483648, 2147483647), by decide +kernel, by decide +kernel⟩
      · unfold itv_Type.f
        rw [if_neg h1, if_neg h2, if_neg h3, if_neg h1, if_neg h2, if_neg h3]
        exact ⟨(1, 0), rfl, rfl⟩

end Go.Proofs.Ytbbnpipmjadpoaa.M
