/- What the law's proof needs of M2. -/
import Derived.Test.YtbbnpipmjadpoaaTrDM1
import Derived.Test.YtbbnpipmjadpoaaTrDPx15
import Derived.Test.YtbbnpipmjadpoaaTrDPx11
namespace Go.Proofs.Ytbbnpipmjadpoaa.M
open Go Go.RowKit Go.Proofs.Ytbbnpipmjadpoaa.P Go.Proofs.YtbbnpipmjadpoaaW.PrintWords Go.Proofs.YtbbnpipmjadpoaaW.PrintMore
theorem mnm (a b : Int) : mn a b = min a b := by unfold mn; split <;> omega
theorem mxm (a b : Int) : mx a b = max a b := by unfold mx; split <;> omega
theorem lessm (a b : Int) : gimbalref02_less.f a b = some (min a b) := by
  unfold gimbalref02_less.f
  (repeat' split) <;> (congr 1; omega)
theorem morem (a b : Int) : gimbalref02_more.f a b = some (max a b) := by
  unfold gimbalref02_more.f
  (repeat' split) <;> (congr 1; omega)
/-- an interval with numbers, as all functions take it -/
def S (p : Int × Int) : Prop := -4611686018427387904 ≤ p.1 ∧ p.1 < 4611686018427387904 ∧ -4611686018427387904 < p.2 ∧ p.2 ≤ 4611686018427387904 ∧ p.1 ≤ p.2
theorem C_cases (a b : Int) : (a > b ∧ C a b = (1, 0)) ∨ (a ≤ b ∧ S (C a b)) := by
  unfold C S
  by_cases h : a > b
  · left; rw [if_pos h]; exact ⟨h, rfl⟩
  · right; rw [if_neg h]
    unfold lo hi
    dsimp only
    (repeat' split) <;> omega
theorem C_S {p : Int × Int} (h : S p) : C p.1 p.2 = p := by
  unfold S at h
  unfold C lo hi
  rw [if_neg (by omega)]
  apply Prod.ext <;> dsimp only <;> (repeat' split) <;> omega
theorem C_two (a b : Int) : C (C a b).1 (C a b).2 = C a b := by
  rcases C_cases a b with ⟨h, e⟩ | ⟨h, e⟩
  · rw [e]; rfl
  · exact C_S e
def fin (x y : Int × Int) : Int × Int × Int × Int := if x.1 > x.2 ∨ y.1 > y.2 then (1, 0, 1, 0) else (x.1, x.2, y.1, y.2)
def low (g : Int) (p q : Int × Int) : Int × Int := if q.2 < 4611686018427387904 then C p.1 (min p.2 (q.2 - g)) else p
def high (g : Int) (p q : Int × Int) : Int × Int := if q.1 > -4611686018427387904 then C (max p.1 (q.1 + g)) p.2 else p
def mt (p q : Int × Int) : Int × Int := C (max p.1 q.1) (min p.2 q.2)
def T4 (p q : Int × Int) : Int × Int × Int × Int := (p.1, p.2, q.1, q.2)
theorem upto1 (k : Nat) (p : Int × Int) (x : Int) : itv_upTo.f (k + 1) p.1 p.2 x = some (C p.1 (min p.2 x)) := by
  unfold itv_upTo.f
  simp only [itv_upTo.j0, itv_Empty.f, of1, Option.bind_some, mnm]
  rw [Int.min_comm x]
  by_cases h1 : p.1 > -4611686018427387904
  · rw [if_pos h1]
    by_cases h2 : p.1 > min p.2 x
    · rw [decide_eq_true h2, C, if_pos h2]
      rfl
    · rw [decide_eq_false h2]
      rfl
  · rw [if_neg h1]
    rfl
theorem from1 (k : Nat) (p : Int × Int) (x : Int) : itv_from.f (k + 1) p.1 p.2 x = some (C (max p.1 x) p.2) := by
  unfold itv_from.f
  simp only [itv_from.j0, itv_Empty.f, of1, Option.bind_some, mxm]
  rw [Int.max_comm x]
  by_cases h1 : p.2 < 4611686018427387904
  · rw [if_pos h1]
    by_cases h2 : max p.1 x > p.2
    · rw [decide_eq_true h2, C, if_pos h2]
      rfl
    · rw [decide_eq_false h2]
      rfl
  · rw [if_neg h1]
    rfl
theorem w64 {x : Int} (h1 : -9223372036854775808 ≤ x) (h2 : x < 9223372036854775808) : wrap64 x = x := by unfold wrap64; omega
theorem meet1 (k : Nat) (a b c d : Int) : itv_Meet.f (k + 1) a b c d = some (if (C a b).1 > (C a b).2 ∨ (C c d).1 > (C c d).2 then (1, 0) else mt (C a b) (C c d)) := by
  unfold itv_Meet.f itv_None.f mt
  rw [sound1, sound1]
  simp only [Option.bind_some, itv_Meet.j0, itv_Empty.f, of1, mnm, mxm]
  by_cases h : (C a b).1 > (C a b).2
  · rw [decide_eq_true h, if_pos (Or.inl h)]; rfl
  · rw [decide_eq_false h]
    by_cases h2 : (C c d).1 > (C c d).2
    · rw [decide_eq_true h2, if_pos (Or.inr h2)]; rfl
    · have e : ¬ ((C a b).1 > (C a b).2 ∨ (C c d).1 > (C c d).2) := by omega
      rw [decide_eq_false h2, if_neg e]; rfl
theorem meet2 (k : Nat) (a b c d : Int) : gimbalref02_Meet.f (k + 3) a b c d = some (if (C a b).1 > (C a b).2 ∨ (C c d).1 > (C c d).2 then (1, 0) else mt (C a b) (C c d)) := by
  unfold gimbalref02_Meet.f gimbalref02_None.f mt
  rw [norm2, norm2]
  simp only [Option.bind_some, gimbalref02_Meet.j0, gimbalref02_Empty.f, lessm, morem]
  rw [of2]
  by_cases h : (C a b).1 > (C a b).2
  · rw [decide_eq_true h, if_pos (Or.inl h)]; rfl
  · rw [decide_eq_false h]
    by_cases h2 : (C c d).1 > (C c d).2
    · rw [decide_eq_true h2, if_pos (Or.inr h2)]; rfl
    · have e : ¬ ((C a b).1 > (C a b).2 ∨ (C c d).1 > (C c d).2) := by omega
      rw [decide_eq_false h2, if_neg e]; rfl
theorem j5 (k : Nat) (x y : Int × Int) : itv_Test.j5 (k + 2) x.1 x.2 y.1 y.2 = some (fin x y) := by
  simp only [itv_Test.j5, itv_Test.j6, itv_None.f, itv_Empty.f, Option.bind_some]
  unfold fin
  by_cases h : x.1 > x.2
  · rw [decide_eq_true h, if_pos (Or.inl h)]; rfl
  · rw [decide_eq_false h]
    by_cases h2 : y.1 > y.2
    · rw [decide_eq_true h2, if_pos (Or.inr h2)]; rfl
    · have e : ¬ (x.1 > x.2 ∨ y.1 > y.2) := by omega
      rw [decide_eq_false h2, if_neg e]; rfl
theorem j3 (k : Nat) (t : Bool) {g : Int} (hg : 0 ≤ g) (hg1 : g ≤ 1) {p q : Int × Int} (h : S p) (h2 : S q) : itv_Test.j3 (k + 4) t g p.1 p.2 q.1 q.2 = some (if t = true then fin (high g q p) (low g p q) else fin (low g p q) (high g q p)) := by
  have hp := h
  have hq := h2
  unfold S at hp hq
  have key : ∀ z : Int × Int, itv_Test.j4 (k + 3) t g p.1 p.2 q.1 q.2 z.1 z.2 q.1 q.2 = some (if t = true then fin (high g q p) z else fin z (high g q p)) := by
    intro z
    simp only [itv_Test.j4]
    rw [w64 (by omega) (by omega), from1 (k + 1)]
    rw [Option.bind_some, j5, j5, j5, j5]
    unfold high
    by_cases h1 : p.1 > -4611686018427387904
    · rw [if_pos h1, if_pos h1]
      cases t <;> rfl
    · rw [if_neg h1, if_neg h1]
      cases t <;> rfl
  simp only [itv_Test.j3]
  rw [w64 (by omega) (by omega), upto1 (k + 2)]
  rw [Option.bind_some, key, key]
  unfold low
  by_cases h1 : q.2 < 4611686018427387904
  · rw [if_pos h1, if_pos h1]
  · rw [if_neg h1, if_neg h1]
end Go.Proofs.Ytbbnpipmjadpoaa.M
