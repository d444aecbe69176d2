/- What the law's proof needs of M7. -/
import Derived.Test.YtbbnpipmjadpoaaTrJM5
import Derived.Test.YtbbnpipmjadpoaaTrJPx29
import Derived.Test.YtbbnpipmjadpoaaTrJPx35
import Derived.Laws.BitsLemmas
import Derived.Laws.Bits64
namespace Go.Proofs.Ytbbnpipmjadpoaa.M
open Go Go.RowKit Go.Proofs.Ytbbnpipmjadpoaa.P Go.Proofs.YtbbnpipmjadpoaaW.PrintWords Go.Proofs.YtbbnpipmjadpoaaW.PrintMore
def upv (a b : Int) : Int := if fitm a = 4611686018427387904 ∨ fitm b = 4611686018427387904 then 4611686018427387904 else min (max (fitm a + fitm b) (-4611686018427387903)) 4611686018427387904
theorem upf (a b : Int) : bound_Up.f a b = some (upv a b) := by
  unfold bound_Up.f upv
  rw [fitf, fitf, Option.bind_some, Option.bind_some]
  obtain ⟨h1, h2⟩ := fitm_le a
  obtain ⟨h3, h4⟩ := fitm_le b
  by_cases g : fitm a = 4611686018427387904
  · rw [if_pos g, if_pos (Or.inl g)]
  · rw [if_neg g]
    by_cases g2 : fitm b = 4611686018427387904
    · rw [if_pos g2, if_pos (Or.inr g2)]
    · rw [if_neg g2, if_neg (by omega), w64 (by omega) (by omega), mnm, mxm]
def dnv (a b : Int) : Int := -(upv (-(fitm a)) (-(fitm b)))
theorem upv_le (a b : Int) : -4611686018427387903 ≤ upv a b ∧ upv a b ≤ 4611686018427387904 := by unfold upv; split <;> omega
theorem dnf (a b : Int) : bound_Down.f a b = some (dnv a b) := by
  unfold bound_Down.f dnv
  obtain ⟨h1, h2⟩ := fitm_le a
  obtain ⟨h3, h4⟩ := fitm_le b
  rw [fitf, fitf, Option.bind_some, Option.bind_some, w64 (by omega) (by omega), w64 (by omega) (by omega), upf, Option.bind_some]
  have := upv_le (-(fitm a)) (-(fitm b))
  rw [w64 (by omega) (by omega)]
/-- an operation of two intervals with numbers -/
def op2 (o : Int × Int → Int × Int → Int × Int) (p q : Int × Int) : Int × Int := if p.1 > p.2 ∨ q.1 > q.2 then (1, 0) else o p q
def ad (p q : Int × Int) : Int × Int := C (dnv p.1 q.1) (upv p.2 q.2)
theorem addf (k : Nat) (a b c d : Int) : itv_Add.f (k + 1) a b c d = some (op2 ad (C a b) (C c d)) := by
  unfold itv_Add.f itv_both_itv_Add_1.f op2
  rw [sound1, sound1, Option.bind_some, Option.bind_some]
  generalize C a b = p at *
  generalize C c d = q at *
  unfold itv_None.f
  rw [Option.bind_some, Option.bind_some]
  have jt : itv_both_itv_Add_1.j0 (k + 1) true p.1 p.2 q.1 q.2 = some (1, 0) := rfl
  by_cases h1 : p.1 > p.2
  · rw [decide_eq_true h1, if_pos rfl, jt, if_pos (Or.inl h1), Option.bind_some]
  rw [decide_eq_false h1, if_neg (by decide)]
  by_cases h2 : q.1 > q.2
  · rw [decide_eq_true h2, jt, if_pos (Or.inr h2), Option.bind_some]
  rw [decide_eq_false h2, if_neg (by omega : ¬ (p.1 > p.2 ∨ q.1 > q.2))]
  simp only [itv_both_itv_Add_1.j0]
  unfold itv_Add_1.f ad
  rw [if_neg (by decide), dnf, Option.bind_some, upf, Option.bind_some, of1, Option.bind_some, Option.bind_some, Option.bind_some]
/-- the numbers turned round -/
def ne (p : Int × Int) : Int × Int := if p.1 > p.2 then p else C (-p.2) (-p.1)
theorem negf' (a b : Int) : itv_Neg.f a b = some (ne (C a b)) := by
  have hp := W_C a b
  obtain ⟨h1, h2, h3, h4⟩ := W_le hp
  unfold itv_Neg.f itv_None.f ne
  rw [sound1, Option.bind_some, Option.bind_some]
  by_cases h : (C a b).1 > (C a b).2
  · rw [decide_eq_true h, if_pos rfl, if_pos h]
  · rw [decide_eq_false h, if_neg (by decide), if_neg h, bnegf h3 h4, Option.bind_some, bnegf h1 h2, Option.bind_some, of1, Option.bind_some]
theorem W_ne {p : Int × Int} (h : W p) : W (ne p) := by
  unfold ne
  split
  · exact h
  · exact W_C _ _
theorem subf (k : Nat) (a b c d : Int) : itv_Sub.f (k + 1) a b c d = some (op2 ad (C a b) (ne (C c d))) := by
  unfold itv_Sub.f
  rw [negf', Option.bind_some, addf, Option.bind_some, C_W (W_ne (W_C c d))]
theorem absf' (k : Nat) (a b : Int) : itv_Abs.f (k + 1) a b = some (ab (C a b)) := by
  rw [← absf k (W_C a b)]
  unfold itv_Abs.f
  rw [sound1, sound1, C_two]
/-- a bound's product -/
def mv (a b : Int) : Int := min (max (fitm a * fitm b) (-4611686018427387904)) 4611686018427387904
theorem u64_id {x : Int} (h1 : 0 ≤ x) (h2 : x < 18446744073709551616) : IntKind.u64.wrap x = x := by rw [IntKind.wrap_u64]; omega
theorem and32 {a : Int} (h0 : 0 ≤ a) (h1 : a < 9223372036854775808) : Go.bits .and .u64 a 4294967295 = a % 4294967296 := by
  have h := bits_mask .u64 63 (by decide) (fun n h₀ h₁ => by rw [IntKind.wrap_u64]; omega) 32 (by decide) a (by omega) (by omega)
  have e : ((2 : Int) ^ 32 - 1) = 4294967295 := by decide
  have e2 : ((2 : Int) ^ 32) = 4294967296 := by decide
  rw [e, e2] at h
  exact h
theorem mul64 {a b : Int} (ha : 0 ≤ a) (ha1 : a ≤ 4611686018427387904) (hb : 0 ≤ b) (hb1 : b ≤ 4611686018427387904) : bits_Mul64.f a b = some (a * b / 18446744073709551616, a * b % 18446744073709551616) := by
  unfold bits_Mul64.f
  rw [and32 ha (by omega), and32 hb (by omega)]
  have e0 : IntKind.u64.wrap (a * b) = a * b % 18446744073709551616 := by rw [IntKind.wrap_u64]
  rw [e0]
  have x1 : a = a / 4294967296 * 4294967296 + a % 4294967296 := by omega
  have y1 : b = b / 4294967296 * 4294967296 + b % 4294967296 := by omega
  have ra : 0 ≤ a / 4294967296 ∧ a / 4294967296 ≤ 1073741824 ∧ 0 ≤ a % 4294967296 ∧ a % 4294967296 ≤ 4294967295 := by omega
  have rb : 0 ≤ b / 4294967296 ∧ b / 4294967296 ≤ 1073741824 ∧ 0 ≤ b % 4294967296 ∧ b % 4294967296 ≤ 4294967295 := by omega
  have ep : a * b = (a / 4294967296 * (b / 4294967296)) * 18446744073709551616 + (a / 4294967296 * (b % 4294967296)) * 4294967296 + (a % 4294967296 * (b / 4294967296)) * 4294967296 + a % 4294967296 * (b % 4294967296) := by
    generalize a / 4294967296 = a1 at *
    generalize a % 4294967296 = a0 at *
    generalize b / 4294967296 = b1 at *
    generalize b % 4294967296 = b0 at *
    rw [x1, y1, Int.add_mul, Int.mul_add, Int.mul_add]
    have e1 : a1 * 4294967296 * (b1 * 4294967296) = a1 * b1 * 18446744073709551616 := by
      rw [Int.mul_assoc, Int.mul_left_comm 4294967296 b1, ← Int.mul_assoc, Int.mul_comm 4294967296 4294967296]
      rfl
    have e2 : a1 * 4294967296 * b0 = a1 * b0 * 4294967296 := by rw [Int.mul_assoc, Int.mul_comm 4294967296 b0, ← Int.mul_assoc]
    have e3 : a0 * (b1 * 4294967296) = a0 * b1 * 4294967296 := by rw [← Int.mul_assoc]
    rw [e1, e2, e3]
    omega
  rw [ep]
  generalize a / 4294967296 = a1 at *
  generalize a % 4294967296 = a0 at *
  generalize b / 4294967296 = b1 at *
  generalize b % 4294967296 = b0 at *
  have p1 : 0 ≤ a1 * b1 ∧ a1 * b1 ≤ 1073741824 * 1073741824 := ⟨Int.mul_nonneg ra.1 rb.1, Int.mul_le_mul ra.2.1 rb.2.1 rb.1 (by decide)⟩
  have p2 : 0 ≤ a1 * b0 ∧ a1 * b0 ≤ 1073741824 * 4294967295 := ⟨Int.mul_nonneg ra.1 rb.2.2.1, Int.mul_le_mul ra.2.1 rb.2.2.2 rb.2.2.1 (by decide)⟩
  have p3 : 0 ≤ a0 * b1 ∧ a0 * b1 ≤ 4294967295 * 1073741824 := ⟨Int.mul_nonneg ra.2.2.1 rb.1, Int.mul_le_mul ra.2.2.2 rb.2.1 rb.1 (by decide)⟩
  have p4 : 0 ≤ a0 * b0 ∧ a0 * b0 ≤ 4294967295 * 4294967295 := ⟨Int.mul_nonneg ra.2.2.1 rb.2.2.1, Int.mul_le_mul ra.2.2.2 rb.2.2.2 rb.2.2.1 (by decide)⟩
  generalize a1 * b1 = P at *
  generalize a1 * b0 = Q at *
  generalize a0 * b1 = R at *
  generalize a0 * b0 = T at *
  rw [u64_id (x := P) (by omega) (by omega), u64_id (x := Q) (by omega) (by omega), u64_id (x := T) (by omega) (by omega), u64_id (x := R) (by omega) (by omega)]
  rw [u64_id (x := Q + T / 4294967296) (by omega) (by omega)]
  have hm : Go.bits .and .u64 (Q + T / 4294967296) 4294967295 = (Q + T / 4294967296) % 4294967296 := by
    exact and32 (by omega) (by omega)
  rw [hm]
  have g1 : (Q + T / 4294967296) / 4294967296 = (Q + T / 4294967296) / 4294967296 := rfl
  rw [u64_id (x := P + (Q + T / 4294967296) / 4294967296) (by omega) (by omega), u64_id (x := (Q + T / 4294967296) % 4294967296 + R) (by omega) (by omega), u64_id (by omega) (by omega)]
  congr 2
  omega
theorem sizef {x : Int} (h1 : -4611686018427387904 ≤ x) (h2 : x ≤ 4611686018427387904) : bound_size.f x = some (if x < 0 then -x else x) := by
  unfold bound_size.f
  by_cases h : x < 0
  · rw [if_pos h, if_pos h, w64 (by omega) (by omega), u64_id (by omega) (by omega)]
  · rw [if_neg h, if_neg h, u64_id (by omega) (by omega)]
theorem mvf (k : Nat) (a b : Int) : bound_Mul.f (k + 2) a b = some (mv a b) := by
  unfold bound_Mul.f mv
  rw [fitf, fitf, Option.bind_some, Option.bind_some]
  obtain ⟨hx1, hx2⟩ := fitm_le a
  obtain ⟨hy1, hy2⟩ := fitm_le b
  generalize fitm a = x at *
  generalize fitm b = y at *
  have jt : bound_Mul.j0 (k + 2) x y true = some 0 := rfl
  by_cases h0 : x = 0
  · rw [if_pos h0, jt, h0, Int.zero_mul]; rfl
  rw [if_neg h0]
  by_cases h1 : y = 0
  · rw [h1, beq_self_eq_true, ← h1, jt, h1, Int.mul_zero]; rfl
  rw [beq_eq_false_iff_ne.mpr h1]
  simp only [bound_Mul.j0]
  rw [if_neg (by decide), sizef hx1 hx2, Option.bind_some, sizef hy1 hy2, Option.bind_some]
  have hs : ∀ s t : Int, 0 < s → s ≤ 4611686018427387904 → 0 < t → t ≤ 4611686018427387904 → ((bits_Mul64.f s t).bind fun bt581 => if bt581.1 = 0 then bound_Mul.j1 (k + 1) x y 4611686018427387904 bt581.2 (decide (bt581.2 < 4611686018427387904)) else bound_Mul.j1 (k + 1) x y 4611686018427387904 bt581.2 false) = some (if (decide (x < 0) != decide (y < 0)) = true then -(min (s * t) 4611686018427387904) else min (s * t) 4611686018427387904) := by
    intro s t hs1 hs2 ht1 ht2
    rw [mul64 (by omega) hs2 (by omega) ht2, Option.bind_some]
    dsimp only
    have hpos : 0 < s * t := Int.mul_pos hs1 ht1
    have jf : ∀ z, bound_Mul.j1 (k + 1) x y 4611686018427387904 z false = some (if (decide (x < 0) != decide (y < 0)) = true then -4611686018427387904 else 4611686018427387904) := by
      intro z
      simp only [bound_Mul.j1]
      rw [if_neg (by decide), w64 (by decide) (by decide)]
      by_cases g : (decide (x < 0) != decide (y < 0)) = true
      · rw [if_pos g, if_pos g]
      · rw [if_neg g, if_neg g]
    generalize s * t = m at *
    by_cases g1 : m / 18446744073709551616 = 0
    · rw [if_pos g1]
      by_cases g2 : m % 18446744073709551616 < 4611686018427387904
      · rw [decide_eq_true g2]
        have e : m % 18446744073709551616 = m := by omega
        simp only [bound_Mul.j1]
        rw [if_pos trivial, e, w64 (x := m) (by omega) (by omega), w64 (by omega) (by omega), show min m 4611686018427387904 = m by omega]
        by_cases g : (decide (x < 0) != decide (y < 0)) = true
        · rw [if_pos g, if_pos g]
        · rw [if_neg g, if_neg g]
      · rw [decide_eq_false g2, jf, show min m 4611686018427387904 = 4611686018427387904 by omega]
    · rw [if_neg g1, jf, show min m 4611686018427387904 = 4611686018427387904 by omega]
  rw [hs _ _ (by split <;> omega) (by split <;> omega) (by split <;> omega) (by split <;> omega)]
  congr 1
  by_cases g1 : x < 0
  · by_cases g2 : y < 0
    · rw [decide_eq_true g1, decide_eq_true g2, if_neg (by decide), if_pos g1, if_pos g2, Int.neg_mul_neg]
      have := Int.mul_pos_of_neg_of_neg g1 g2
      omega
    · rw [decide_eq_true g1, decide_eq_false g2, if_pos (by decide), if_pos g1, if_neg g2, Int.neg_mul]
      have := Int.mul_neg_of_neg_of_pos g1 (by omega : 0 < y)
      omega
  · by_cases g2 : y < 0
    · rw [decide_eq_false g1, decide_eq_true g2, if_pos (by decide), if_neg g1, if_pos g2, Int.mul_neg]
      have := Int.mul_neg_of_pos_of_neg (by omega : 0 < x) g2
      omega
    · rw [decide_eq_false g1, decide_eq_false g2, if_neg (by decide), if_neg g1, if_neg g2]
      have := Int.mul_pos (by omega : 0 < x) (by omega : 0 < y)
      omega
def mu (p q : Int × Int) : Int × Int := hl (mv p.1 q.1) (mv p.1 q.2) (mv p.2 q.1) (mv p.2 q.2)
theorem mulf (k : Nat) (a b c d : Int) : itv_Mul.f (k + 3) a b c d = some (op2 mu (C a b) (C c d)) := by
  unfold itv_Mul.f itv_both_itv_Mul_1.f op2
  rw [sound1, sound1, Option.bind_some, Option.bind_some]
  generalize C a b = p at *
  generalize C c d = q at *
  unfold itv_None.f
  rw [Option.bind_some, Option.bind_some]
  have jt : itv_both_itv_Mul_1.j0 (k + 3) true p.1 p.2 q.1 q.2 = some (1, 0) := rfl
  by_cases h1 : p.1 > p.2
  · rw [decide_eq_true h1, if_pos rfl, jt, if_pos (Or.inl h1), Option.bind_some]
  rw [decide_eq_false h1, if_neg (by decide)]
  by_cases h2 : q.1 > q.2
  · rw [decide_eq_true h2, jt, if_pos (Or.inr h2), Option.bind_some]
  rw [decide_eq_false h2, if_neg (by omega : ¬ (p.1 > p.2 ∨ q.1 > q.2))]
  simp only [itv_both_itv_Mul_1.j0]
  unfold itv_Mul_1.f mu
  rw [if_neg (by decide), mvf, Option.bind_some, mvf, Option.bind_some, mvf, Option.bind_some, mvf, Option.bind_some, hlf, Option.bind_some, Option.bind_some, Option.bind_some]
/-- is a number in an interval -/
def hs (p : Int × Int) (x : Int) : Bool := decide (p.1 ≤ p.2 ∧ (p.1 = -4611686018427387904 ∨ p.1 ≤ x) ∧ (p.2 = 4611686018427387904 ∨ x ≤ p.2))
end Go.Proofs.Ytbbnpipmjadpoaa.M
