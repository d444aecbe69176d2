/- What the law's proof needs of M2. -/
import Derived.Test.YtbbnpipmjadpoaaTrHM1
import Derived.Test.YtbbnpipmjadpoaaTrHPx15
import Derived.Test.YtbbnpipmjadpoaaTrHU2
import Derived.Test.YtbbnpipmjadpoaaTrHU
import Derived.Test.YtbbnpipmjadpoaaTrHPx0
import Derived.Test.YtbbnpipmjadpoaaTrHPx2
import Derived.Test.YtbbnpipmjadpoaaTrHPx3
namespace Go.Proofs.Ytbbnpipmjadpoaa.M
open Go Go.RowKit Go.Proofs.Ytbbnpipmjadpoaa.P Go.Proofs.YtbbnpipmjadpoaaW.PrintWords Go.Proofs.YtbbnpipmjadpoaaW.PrintMore
theorem mnm (a b : Int) : mn a b = min a b := by unfold mn; split <;> omega
theorem mxm (a b : Int) : mx a b = max a b := by unfold mx; split <;> omega
/-- an interval with numbers, as all functions take it -/
def S (p : Int × Int) : Prop := -4611686018427387904 ≤ p.1 ∧ p.1 < 4611686018427387904 ∧ -4611686018427387904 < p.2 ∧ p.2 ≤ 4611686018427387904 ∧ p.1 ≤ p.2
theorem C_cases (a b : Int) : (a > b ∧ C a b = (1, 0)) ∨ (a ≤ b ∧ S (C a b)) := by
  unfold C S
  by_cases h : a > b
  · left; rw [if_pos h]; exact ⟨h, rfl⟩
  · right; rw [if_neg h]
    unfold lo hi
    dsimp only
    (repeat' split) <;> omega
theorem C_none (a b : Int) : (C a b).1 > (C a b).2 ↔ a > b := by
  rcases C_cases a b with ⟨h, e⟩ | ⟨h, e⟩
  · rw [e]; simp only [h, iff_true]; decide
  · unfold S at e; omega
theorem C_S {p : Int × Int} (h : S p) : C p.1 p.2 = p := by
  unfold S at h
  unfold C lo hi
  rw [if_neg (by omega)]
  apply Prod.ext <;> dsimp only <;> (repeat' split) <;> omega
def fin (x y : Int × Int) : Int × Int × Int × Int := if x.1 > x.2 ∨ y.1 > y.2 then (1, 0, 1, 0) else (x.1, x.2, y.1, y.2)
def wo (p q : Int × Int) : Int × Int := if q.1 = q.2 then (if q.1 = p.1 then C (p.1 + 1) p.2 else if q.1 = p.2 then C p.1 (p.2 - 1) else p) else p
def low (g : Int) (p q : Int × Int) : Int × Int := if q.2 < 4611686018427387904 then C p.1 (min p.2 (q.2 - g)) else p
def high (g : Int) (p q : Int × Int) : Int × Int := if q.1 > -4611686018427387904 then C (max p.1 (q.1 + g)) p.2 else p
def mt (p q : Int × Int) : Int × Int := C (max p.1 q.1) (min p.2 q.2)
def T4 (p q : Int × Int) : Int × Int × Int × Int := (p.1, p.2, q.1, q.2)
def tt (op : Int) (p q : Int × Int) : Int × Int × Int × Int :=
  if op = 14 then fin (mt p q) (mt p q) else if op = 15 then fin (wo p q) (wo q p) else
  if op = 18 then fin (high 1 p q) (low 1 q p) else if op = 19 then fin (high 0 p q) (low 0 q p) else
  if op = 16 then fin (low 1 p q) (high 1 q p) else fin (low 0 p q) (high 0 q p)
/-- what is left of two intervals (after both were made sound) -/
def TT (op : Int) (p q : Int × Int) : Int × Int × Int × Int :=
  if op < 14 ∨ op > 19 then T4 p q else if p.1 > p.2 ∨ q.1 > q.2 then (1, 0, 1, 0) else tt op p q
theorem upto1 (k : Nat) (p : Int × Int) (x : Int) : itv_upTo.f (k + 1) p.1 p.2 x = some (C p.1 (min p.2 x)) := by
  unfold itv_upTo.f
  simp only [itv_upTo.j0, itv_Empty.f, of1, Option.bind_some, mnm]
  rw [Int.min_comm x]
  by_cases h1 : p.1 > -4611686018427387904
  · rw [if_pos h1]
    by_cases h2 : p.1 > min p.2 x
    · rw [decide_eq_true h2, C, if_pos h2]
      rfl
    · rw [decide_eq_false h2]
      rfl
  · rw [if_neg h1]
    rfl
theorem from1 (k : Nat) (p : Int × Int) (x : Int) : itv_from.f (k + 1) p.1 p.2 x = some (C (max p.1 x) p.2) := by
  unfold itv_from.f
  simp only [itv_from.j0, itv_Empty.f, of1, Option.bind_some, mxm]
  rw [Int.max_comm x]
  by_cases h1 : p.2 < 4611686018427387904
  · rw [if_pos h1]
    by_cases h2 : max p.1 x > p.2
    · rw [decide_eq_true h2, C, if_pos h2]
      rfl
    · rw [decide_eq_false h2]
      rfl
  · rw [if_neg h1]
    rfl
theorem w64 {x : Int} (h1 : -9223372036854775808 ≤ x) (h2 : x < 9223372036854775808) : wrap64 x = x := by unfold wrap64; omega
theorem without1 (k : Nat) {p q : Int × Int} (h : S p) (h2 : S q) : itv_without.f (k + 1) p.1 p.2 q.1 q.2 = some (wo p q) := by
  unfold itv_without.f wo
  have hp := h
  have hq := h2
  unfold S at hp hq
  rw [w64 (by omega) (by omega), w64 (by omega) (by omega)]
  rw [from1 k, upto1 k]
  simp only [Option.bind_some]
  by_cases e : q.1 = q.2
  · rw [if_pos e, if_pos e]
    by_cases e1 : q.1 = p.1
    · rw [if_pos e1, if_pos e1, show max p.1 (q.1 + 1) = p.1 + 1 by omega]
    · rw [if_neg e1, if_neg e1]
      by_cases e2 : q.1 = p.2
      · rw [if_pos e2, if_pos e2, show min p.2 (q.1 - 1) = p.2 - 1 by omega]
      · rw [if_neg e2, if_neg e2]
  · rw [if_neg e, if_neg e]
theorem meet1 (k : Nat) (a b c d : Int) : itv_Meet.f (k + 1) a b c d = some (if (C a b).1 > (C a b).2 ∨ (C c d).1 > (C c d).2 then (1, 0) else mt (C a b) (C c d)) := by
  unfold itv_Meet.f itv_None.f mt
  rw [sound1, sound1]
  simp only [Option.bind_some, itv_Meet.j0, itv_Empty.f, of1, mnm, mxm]
  by_cases h : (C a b).1 > (C a b).2
  · rw [decide_eq_true h, if_pos (Or.inl h)]; rfl
  · rw [decide_eq_false h]
    by_cases h2 : (C c d).1 > (C c d).2
    · rw [decide_eq_true h2, if_pos (Or.inr h2)]; rfl
    · have e : ¬ ((C a b).1 > (C a b).2 ∨ (C c d).1 > (C c d).2) := by omega
      rw [decide_eq_false h2, if_neg e]; rfl
theorem meetS1 (k : Nat) {p q : Int × Int} (h : S p) (h2 : S q) : itv_Meet.f (k + 1) p.1 p.2 q.1 q.2 = some (mt p q) := by
  rw [meet1, C_S h, C_S h2]
  unfold S at h h2
  rw [if_neg (by omega)]
theorem j5 (k : Nat) (x y : Int × Int) : itv_Test.j5 (k + 2) x.1 x.2 y.1 y.2 = some (fin x y) := by
  simp only [itv_Test.j5, itv_Test.j6, itv_None.f, itv_Empty.f, Option.bind_some]
  unfold fin
  by_cases h : x.1 > x.2
  · rw [decide_eq_true h, if_pos (Or.inl h)]; rfl
  · rw [decide_eq_false h]
    by_cases h2 : y.1 > y.2
    · rw [decide_eq_true h2, if_pos (Or.inr h2)]; rfl
    · have e : ¬ (x.1 > x.2 ∨ y.1 > y.2) := by omega
      rw [decide_eq_false h2, if_neg e]; rfl
theorem j3 (k : Nat) (t : Bool) {g : Int} (hg : 0 ≤ g) (hg1 : g ≤ 1) {p q : Int × Int} (h : S p) (h2 : S q) : itv_Test.j3 (k + 4) t g p.1 p.2 q.1 q.2 = some (if t = true then fin (high g q p) (low g p q) else fin (low g p q) (high g q p)) := by
  have hp := h
  have hq := h2
  unfold S at hp hq
  have key : ∀ z : Int × Int, itv_Test.j4 (k + 3) t g p.1 p.2 q.1 q.2 z.1 z.2 q.1 q.2 = some (if t = true then fin (high g q p) z else fin z (high g q p)) := by
    intro z
    simp only [itv_Test.j4]
    rw [w64 (by omega) (by omega), from1 (k + 1)]
    rw [Option.bind_some, j5, j5, j5, j5]
    unfold high
    by_cases h1 : p.1 > -4611686018427387904
    · rw [if_pos h1, if_pos h1]
      cases t <;> rfl
    · rw [if_neg h1, if_neg h1]
      cases t <;> rfl
  simp only [itv_Test.j3]
  rw [w64 (by omega) (by omega), upto1 (k + 2)]
  rw [Option.bind_some, key, key]
  unfold low
  by_cases h1 : q.2 < 4611686018427387904
  · rw [if_pos h1, if_pos h1]
  · rw [if_neg h1, if_neg h1]
theorem test1 (k : Nat) (op a b c d : Int) : itv_Test.f (k + 7) op a b c d = some (TT op (C a b) (C c d)) := by
  unfold itv_Test.f TT
  rw [sound1, sound1, Option.bind_some, Option.bind_some]
  have hp := C_cases a b
  have hq := C_cases c d
  generalize C a b = p at *
  generalize C c d = q at *
  have e : (if op < 14 then itv_Test.j0 (k + 7) op true p.1 p.2 q.1 q.2 else itv_Test.j0 (k + 7) op (decide (op > 19)) p.1 p.2 q.1 q.2) = itv_Test.j0 (k + 7) op (decide (op < 14 ∨ op > 19)) p.1 p.2 q.1 q.2 := by
    by_cases h : op < 14
    · rw [if_pos h, decide_eq_true (Or.inl h)]
    · rw [if_neg h]
      by_cases h2 : op > 19
      · rw [decide_eq_true h2, decide_eq_true (Or.inr h2)]
      · rw [decide_eq_false h2, decide_eq_false (by omega)]
  rw [e]
  simp only [itv_Test.j0]
  by_cases h : op < 14 ∨ op > 19
  · rw [decide_eq_true h, if_pos h]; rfl
  rw [decide_eq_false h, if_neg h]
  have e2 : (itv_None.f p.1 p.2).bind (fun t269 => if t269 = true then itv_Test.j1 (k + 6) op true p.1 p.2 q.1 q.2 else (itv_None.f q.1 q.2).bind fun t270 => itv_Test.j1 (k + 6) op t270 p.1 p.2 q.1 q.2) = itv_Test.j1 (k + 6) op (decide (p.1 > p.2 ∨ q.1 > q.2)) p.1 p.2 q.1 q.2 := by
    unfold itv_None.f
    by_cases h : p.1 > p.2
    · rw [decide_eq_true h, decide_eq_true (Or.inl h)]; rfl
    · rw [decide_eq_false h]
      by_cases h2 : q.1 > q.2
      · rw [decide_eq_true h2, decide_eq_true (Or.inr h2)]; rfl
      · rw [decide_eq_false h2, decide_eq_false (by omega)]; rfl
  rw [if_neg (by decide), e2]
  simp only [itv_Test.j1]
  by_cases hn : p.1 > p.2 ∨ q.1 > q.2
  · rw [decide_eq_true hn, if_pos hn]; rfl
  rw [decide_eq_false hn, if_neg hn, if_neg (by decide)]
  have sp : S p := by rcases hp with ⟨_, e⟩ | ⟨_, e⟩; (exfalso; rw [e] at hn; exact hn (Or.inl (by decide))); exact e
  have sq : S q := by rcases hq with ⟨_, e⟩ | ⟨_, e⟩; (exfalso; rw [e] at hn; exact hn (Or.inr (by decide))); exact e
  unfold tt
  by_cases h14 : op = 14
  · rw [if_pos h14, if_pos h14, meetS1 (k + 4) sp sq, Option.bind_some, j5]
  rw [if_neg h14, if_neg h14]
  by_cases h15 : op = 15
  · rw [if_pos h15, if_pos h15, without1 (k + 4) sp sq, Option.bind_some, without1 (k + 4) sq sp, Option.bind_some, j5]
  rw [if_neg h15, if_neg h15]
  by_cases h18 : op = 18
  · rw [if_pos h18, if_pos h18]
    simp only [itv_Test.j2]
    rw [if_pos trivial, j3 k true (by omega) (by omega) sq sp]; rfl
  rw [if_neg h18, if_neg h18]
  by_cases h19 : op = 19
  · rw [if_pos h19, if_pos h19]
    simp only [itv_Test.j2]
    rw [if_neg (by decide), j3 k true (by omega) (by omega) sq sp]; rfl
  rw [if_neg h19, if_neg h19]
  simp only [itv_Test.j2]
  by_cases h16 : op = 16
  · rw [if_pos h16, if_pos h16, j3 k false (by omega) (by omega) sp sq]; rfl
  · rw [if_neg h16, if_neg h16, j3 k false (by omega) (by omega) sp sq]; rfl
end Go.Proofs.Ytbbnpipmjadpoaa.M
