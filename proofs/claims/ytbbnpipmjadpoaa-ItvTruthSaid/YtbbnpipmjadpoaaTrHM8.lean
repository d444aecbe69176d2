/- What the law's proof needs of M8. -/
import Derived.Test.YtbbnpipmjadpoaaTrHM3
import Derived.Test.YtbbnpipmjadpoaaTrHM7
namespace Go.Proofs.Ytbbnpipmjadpoaa.M
open Go Go.RowKit Go.Proofs.Ytbbnpipmjadpoaa.P Go.Proofs.YtbbnpipmjadpoaaW.PrintWords Go.Proofs.YtbbnpipmjadpoaaW.PrintMore
def In (p : Int × Int) (x : Int) : Prop := p.1 ≤ x ∧ x ≤ p.2
theorem In_C {a b x : Int} (h1 : a ≤ x) (h2 : x ≤ b) (h3 : -4611686018427387904 ≤ x) (h4 : x ≤ 4611686018427387904) : In (C a b) x := by
  unfold In C lo hi
  rw [if_neg (by omega)]
  dsimp only
  (repeat' split) <;> omega
/-- does a comparison hold -/
def ho (op x y : Int) : Bool := if op = 14 then x == y else if op = 15 then x != y else if op = 16 then decide (x < y) else if op = 17 then decide (x ≤ y) else if op = 18 then decide (x > y) else decide (x ≥ y)
theorem hof (op x y : Int) : gimballaw02_holds.f op x y = some (ho op x y) := by
  unfold gimballaw02_holds.f ho
  (repeat' split) <;> rfl
theorem ho_oth (op : Int) (h : 14 ≤ op ∧ op ≤ 19) (x y : Int) (hf : ho op x y = false) : ho (oth op) x y = true := by
  rcases (by omega : op = 14 ∨ op = 15 ∨ op = 16 ∨ op = 17 ∨ op = 18 ∨ op = 19) with h | h | h | h | h | h <;> subst h
  · have h1 : (x == y) = false := hf
    show (x != y) = true
    simp only [bne, h1]; rfl
  · have h1 : (x != y) = false := hf
    show (x == y) = true
    simpa [bne] using h1
  · have h1 : decide (x < y) = false := hf
    show decide (x ≥ y) = true
    have := of_decide_eq_false h1
    exact decide_eq_true (by omega)
  · have h1 : decide (x ≤ y) = false := hf
    show decide (x > y) = true
    have := of_decide_eq_false h1
    exact decide_eq_true (by omega)
  · have h1 : decide (x > y) = false := hf
    show decide (x ≤ y) = true
    have := of_decide_eq_false h1
    exact decide_eq_true (by omega)
  · have h1 : decide (x ≥ y) = false := hf
    show decide (x < y) = true
    have := of_decide_eq_false h1
    exact decide_eq_true (by omega)
theorem low_In {p q : Int × Int} {g x y : Int} (hx : In p x) (hy : In q y) (h : x + g ≤ y) (b1 : -4611686018427387904 ≤ x) (b2 : x ≤ 4611686018427387904) : In (low g p q) x := by
  unfold low
  split
  · exact In_C hx.1 (by unfold In at *; omega) b1 b2
  · exact hx
theorem high_In {p q : Int × Int} {g x y : Int} (hx : In p x) (hy : In q y) (h : y + g ≤ x) (b1 : -4611686018427387904 ≤ x) (b2 : x ≤ 4611686018427387904) : In (high g p q) x := by
  unfold high
  split
  · exact In_C (by unfold In at *; omega) hx.2 b1 b2
  · exact hx
theorem wo_In {p q : Int × Int} {x y : Int} (hx : In p x) (hy : In q y) (h : x ≠ y) (b1 : -4611686018427387904 ≤ x) (b2 : x ≤ 4611686018427387904) : In (wo p q) x := by
  unfold wo
  split
  · split
    · exact In_C (by unfold In at *; omega) hx.2 b1 b2
    · split
      · exact In_C hx.1 (by unfold In at *; omega) b1 b2
      · exact hx
  · exact hx
theorem tc_In (op : Int) (h : 14 ≤ op ∧ op ≤ 19) {p q : Int × Int} {x y : Int} (hx : In p x) (hy : In q y) (hh : ho op x y = true) (b1 : -4611686018427387904 ≤ x) (b2 : x ≤ 4611686018427387904) (b3 : -4611686018427387904 ≤ y) (b4 : y ≤ 4611686018427387904) : In (tc op p q).1 x ∧ In (tc op p q).2 y := by
  rcases (by omega : op = 14 ∨ op = 15 ∨ op = 16 ∨ op = 17 ∨ op = 18 ∨ op = 19) with h | h | h | h | h | h <;> subst h
  · have e : x = y := by have h1 : (x == y) = true := hh; simpa using h1
    subst e
    show In (mt p q) x ∧ In (mt p q) x
    have : In (mt p q) x := by unfold mt; unfold In at hx hy; exact In_C (by omega) (by omega) b1 b2
    exact ⟨this, this⟩
  · have e : x ≠ y := by have h1 : (x != y) = true := hh; simpa using h1
    show In (wo p q) x ∧ In (wo q p) y
    exact ⟨wo_In hx hy e b1 b2, wo_In hy hx (fun z => e z.symm) b3 b4⟩
  · have e : x < y := of_decide_eq_true hh
    show In (low 1 p q) x ∧ In (high 1 q p) y
    exact ⟨low_In hx hy (by omega) b1 b2, high_In hy hx (by omega) b3 b4⟩
  · have e : x ≤ y := of_decide_eq_true hh
    show In (low 0 p q) x ∧ In (high 0 q p) y
    exact ⟨low_In hx hy (by omega) b1 b2, high_In hy hx (by omega) b3 b4⟩
  · have e : x > y := of_decide_eq_true hh
    show In (high 1 p q) x ∧ In (low 1 q p) y
    exact ⟨high_In hx hy (by omega) b1 b2, low_In hy hx (by omega) b3 b4⟩
  · have e : x ≥ y := of_decide_eq_true hh
    show In (high 0 p q) x ∧ In (low 0 q p) y
    exact ⟨high_In hx hy (by omega) b1 b2, low_In hy hx (by omega) b3 b4⟩
theorem pr_In (op : Int) (h : 14 ≤ op ∧ op ≤ 19) {p q : Int × Int} (hp : S p) (hq : S q) {x y : Int} (hx : In p x) (hy : In q y) (hh : ho op x y = true) (b1 : -4611686018427387904 ≤ x) (b2 : x ≤ 4611686018427387904) (b3 : -4611686018427387904 ≤ y) (b4 : y ≤ 4611686018427387904) : pr op p q = true := by
  obtain ⟨h1, _⟩ := tc_In op h hx hy hh b1 b2 b3 b4
  obtain ⟨h3, _⟩ := tc_none op hp hq
  cases e : pr op p q
  · have := h3.mpr e
    unfold In at h1
    omega
  · rfl
end Go.Proofs.Ytbbnpipmjadpoaa.M
