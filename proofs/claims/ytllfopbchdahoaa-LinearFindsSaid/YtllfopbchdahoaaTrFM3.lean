/- What the law's proof needs of M3. -/
import Derived.Test.YtllfopbchdahoaaTrFM2
import Derived.Test.YtllfopbchdahoaaTrFPx6
import Derived.Test.YtllfopbchdahoaaTrFU4
import Derived.Test.YtllfopbchdahoaaTrFPx0
import Derived.Test.YtllfopbchdahoaaTrFPx7
import Derived.Test.YtllfopbchdahoaaTrFPx8
namespace Go.Proofs.Ytllfopbchdahoaa.M
open Go.RowKit Go.Proofs.Ytllfopbchdahoaa.P Go.Proofs.YtllfopbchdahoaaW.PrintWords Go.Proofs.YtllfopbchdahoaaW.PrintLast
theorem some_dec {b : Bool} {P : Prop} [Decidable P] (h : b = true ↔ P) : some b = some (decide P) := by
  congr 1
  exact Bool.eq_iff_iff.2 (h.trans decide_eq_true_iff.symm)
theorem fit_eq (k : Nat) (x s y t c : Int) : linear_Fit.f (k + 1) x s y t c = some (decide (Fit ⟨x, s, y, t, c⟩)) := by
  have hj : ∀ b, linear_Fit.j0 (k + 1) b x s y t c = if b = true then some false else some (decide ((s = 0 ∧ x = 0 ∧ y = 0 ∧ t = 0) ∨ ((s = 1 ∨ s = -1) ∧ 0 ≤ x ∧ ((t = 0 ∧ y = 0) ∨ ((t = 1 ∨ t = -1) ∧ x < y))))) := by
    intro b
    simp only [linear_Fit.j0, linear_parts.f, linear_Fit_1.f, Option.bind_some]
    split
    · rfl
    · repeat' split
      all_goals try simp only [Option.bind_some]
      all_goals repeat' split
      all_goals (refine some_dec ?_; simp only [Bool.and_eq_true, beq_iff_eq, decide_eq_true_eq, Bool.false_eq_true, false_iff] at * <;> first | omega | exact absurd rfl ‹¬ true = true› | contradiction)
  unfold linear_Fit.f
  split
  · rw [hj, if_pos rfl]
    congr 1
    symm
    rw [decide_eq_false_iff_not]
    unfold Fit; simp only; omega
  · rw [hj]
    split
    · rename_i h1 h2
      have := of_decide_eq_true h2
      congr 1
      symm
      rw [decide_eq_false_iff_not]
      unfold Fit; simp only; omega
    · rename_i h1 h2
      have := of_decide_eq_false (Bool.eq_false_iff.2 h2)
      congr 1
      rw [decide_eq_decide]
      unfold Fit; simp only; omega
theorem reffit_eq (k : Nat) (x s y t c : Int) : gimbalref14_Fit.f (k + 2) x s y t c = some (decide (Fit ⟨x, s, y, t, c⟩)) := by
  have hj1 : ∀ b, gimbalref14_Fit.j1 (k + 1) b x s y t c = if b = true then some false else some (decide ((t = 0 ∧ y = 0) ∨ ((t = 1 ∨ t = -1) ∧ x < y))) := by
    intro b
    simp only [gimbalref14_Fit.j1]
    split
    · rfl
    · repeat' split
      all_goals (refine some_dec ?_; simp only [Bool.and_eq_true, beq_iff_eq, decide_eq_true_eq, Bool.false_eq_true, false_iff, true_iff, not_true_eq_false] at * <;> first | omega | contradiction)
  have hj : ∀ b, gimbalref14_Fit.j0 (k + 2) b x s y t c = if b = true then some false else some (decide ((s = 0 ∧ x = 0 ∧ y = 0 ∧ t = 0) ∨ ((s = 1 ∨ s = -1) ∧ 0 ≤ x ∧ ((t = 0 ∧ y = 0) ∨ ((t = 1 ∨ t = -1) ∧ x < y))))) := by
    intro b
    rw [gimbalref14_Fit.j0]
    simp only [hj1]
    split
    · rfl
    · repeat' split
      all_goals (refine some_dec ?_; simp only [Bool.and_eq_true, beq_iff_eq, decide_eq_true_eq, Bool.false_eq_true, false_iff, true_iff, not_true_eq_false] at * <;> first | omega | contradiction)
  unfold gimbalref14_Fit.f
  split
  · rw [hj, if_pos rfl]
    congr 1
    symm
    rw [decide_eq_false_iff_not]
    unfold Fit; simp only; omega
  · rw [hj]
    split
    · rename_i h1 h2
      have := of_decide_eq_true h2
      congr 1
      symm
      rw [decide_eq_false_iff_not]
      unfold Fit; simp only; omega
    · rename_i h1 h2
      have := of_decide_eq_false (Bool.eq_false_iff.2 h2)
      congr 1
      rw [decide_eq_decide]
      unfold Fit; simp only; omega
def clp (x : Int) : Int := mn (mx x (-1099511627776)) 1099511627776
theorem clp_bound (x : Int) : -1099511627776 ≤ clp x ∧ clp x ≤ 1099511627776 := by
  unfold clp mn mx
  repeat' split
  all_goals omega
/-- A form's value. -/
def val5 (l : L5) (v : List Int) : Int := if Fit l ∧ (l.s ≠ 0 → l.x < v.length) ∧ (l.t ≠ 0 → l.y < v.length) then l.c + l.s * clp (rd v l.x) + l.t * clp (rd v l.y) else 0
theorem sign_mul {s a : Int} (hs : s = 0 ∨ s = 1 ∨ s = -1) (ha : -1099511627776 ≤ a ∧ a ≤ 1099511627776) : -1099511627776 ≤ s * a ∧ s * a ≤ 1099511627776 := by
  rcases hs with rfl | rfl | rfl <;> omega
theorem fit_signs {l : L5} (h : Fit l) : (l.s = 0 ∨ l.s = 1 ∨ l.s = -1) ∧ (l.t = 0 ∨ l.t = 1 ∨ l.t = -1) ∧ (l.s ≠ 0 → 0 ≤ l.x) ∧ (l.t ≠ 0 → 0 ≤ l.y) ∧ (l.t ≠ 0 → l.s ≠ 0) ∧ (-1099511627776 ≤ l.c ∧ l.c ≤ 1099511627776) := by
  obtain ⟨_, _, h⟩ := h
  omega
/-- The two steps of a value, with their wraps. -/
theorem val_steps {l : L5} (h : Fit l) (a b : Int) (ha : -1099511627776 ≤ a ∧ a ≤ 1099511627776) (hb : -1099511627776 ≤ b ∧ b ≤ 1099511627776) :
    (if l.t = 0 then (if l.s = 0 then l.c else wrap64 (l.c + wrap64 (l.s * a))) else wrap64 ((if l.s = 0 then l.c else wrap64 (l.c + wrap64 (l.s * a))) + wrap64 (l.t * b))) = l.c + l.s * a + l.t * b := by
  obtain ⟨hs, ht, _, _, _, hc⟩ := fit_signs h
  have h1 := sign_mul hs ha
  have h2 := sign_mul ht hb
  have e1 : (if l.s = 0 then l.c else wrap64 (l.c + wrap64 (l.s * a))) = l.c + l.s * a := by
    split
    · rename_i e; rw [e, Int.zero_mul]; omega
    · rw [wrap64_in (l.s * a) (by omega), wrap64_in _ (by omega)]
  rw [e1]
  split
  · rename_i e; rw [e, Int.zero_mul]; omega
  · rw [wrap64_in (l.t * b) (by omega), wrap64_in _ (by omega)]
theorem vj1 (k : Nat) (v : List Int) (x5 x s y t : Int) (hy : t ≠ 0 → 0 ≤ y ∧ y < v.length) : linear_Value.j1 (k + 2) v x5 x s y t = some (if t = 0 then x5 else wrap64 (x5 + wrap64 (t * clp (rd v y)))) := by
  rw [linear_Value.j1]
  by_cases ht : t = 0
  · rw [if_pos ht, if_pos ht]; rfl
  · rw [if_neg ht, if_neg ht, if_pos (hy ht).1, if_pos (hy ht).2]; rfl
theorem vj0 (k : Nat) (v : List Int) (x s y t c : Int) (hx : s ≠ 0 → 0 ≤ x ∧ x < v.length) (hy : t ≠ 0 → 0 ≤ y ∧ y < v.length) :
    linear_Value.j0 (k + 3) v false x s y t c = some (if t = 0 then (if s = 0 then c else wrap64 (c + wrap64 (s * clp (rd v x)))) else wrap64 ((if s = 0 then c else wrap64 (c + wrap64 (s * clp (rd v x)))) + wrap64 (t * clp (rd v y)))) := by
  rw [linear_Value.j0, if_neg (by decide)]
  simp only [linear_parts.f, Option.bind_some]
  by_cases hs : s = 0
  · rw [if_pos hs, vj1 k v c x s y t hy]; simp only [if_pos hs]
  · rw [if_neg hs, if_pos (hx hs).1, if_pos (hx hs).2, vj1 k v _ x s y t hy]; simp only [if_neg hs]; rfl
theorem vj0_true (k : Nat) (v : List Int) (x s y t c : Int) : linear_Value.j0 (k + 1) v true x s y t c = some 0 := by
  rw [linear_Value.j0, if_pos rfl]
theorem value_eq (k : Nat) (l : L5) (v : List Int) : linear_Value.f (k + 3) l.x l.s l.y l.t l.c v = some (val5 l v) := by
  unfold linear_Value.f val5
  rw [fit_eq, Option.bind_some]
  by_cases hf : Fit l
  · obtain ⟨hs, ht, px, py, _, hc⟩ := fit_signs hf
    rw [if_pos (decide_eq_true hf)]
    have fin : (l.s ≠ 0 → l.x < v.length) → (l.t ≠ 0 → l.y < v.length) → linear_Value.j0 (k + 3) v false l.x l.s l.y l.t l.c = some (if Fit l ∧ (l.s ≠ 0 → l.x < v.length) ∧ (l.t ≠ 0 → l.y < v.length) then l.c + l.s * clp (rd v l.x) + l.t * clp (rd v l.y) else 0) := by
      intro h1 h2
      rw [vj0 k v _ _ _ _ _ (fun h => ⟨px h, h1 h⟩) (fun h => ⟨py h, h2 h⟩), val_steps hf _ _ (clp_bound _) (clp_bound _), if_pos ⟨hf, h1, h2⟩]
    have bad : ¬ ((l.s ≠ 0 → l.x < v.length) ∧ (l.t ≠ 0 → l.y < v.length)) → linear_Value.j0 (k + 3) v true l.x l.s l.y l.t l.c = some (if Fit l ∧ (l.s ≠ 0 → l.x < v.length) ∧ (l.t ≠ 0 → l.y < v.length) then l.c + l.s * clp (rd v l.x) + l.t * clp (rd v l.y) else 0) := by
      intro h
      rw [vj0_true, if_neg (fun h' => h h'.2)]
    by_cases h1 : l.s = 0
    · rw [if_pos h1]
      by_cases h2 : l.t = 0
      · rw [if_pos h2]
        exact fin (fun h => absurd h1 h) (fun h => absurd h2 h)
      · rw [if_neg h2]
        by_cases h3 : l.y ≥ (v.length : Int)
        · rw [decide_eq_true h3]
          exact bad (fun h => by have := h.2 h2; omega)
        · rw [decide_eq_false h3]
          exact fin (fun h => absurd h1 h) (fun _ => by omega)
    · rw [if_neg h1]
      by_cases h4 : l.x ≥ (v.length : Int)
      · rw [if_pos h4]
        exact bad (fun h => by have := h.1 h1; omega)
      · rw [if_neg h4]
        by_cases h2 : l.t = 0
        · rw [if_pos h2]
          exact fin (fun _ => by omega) (fun h => absurd h2 h)
        · rw [if_neg h2]
          by_cases h3 : l.y ≥ (v.length : Int)
          · rw [decide_eq_true h3]
            exact bad (fun h => by have := h.2 h2; omega)
          · rw [decide_eq_false h3]
            exact fin (fun _ => by omega) (fun _ => by omega)
  · rw [if_neg (by rw [decide_eq_false (show ¬ Fit ⟨l.x, l.s, l.y, l.t, l.c⟩ from hf)]; decide), vj0_true, if_neg (fun h => hf h.1)]
def l56 (p : Int × Int) : S56 := ⟨p.1, p.2⟩
theorem refparts_eq (l : L5) : gimbalref14_parts.f l.x l.s l.y l.t l.c = some ((parts l).map l56) := by
  unfold gimbalref14_parts.f parts
  by_cases h1 : l.s = 0 <;> by_cases h2 : l.t = 0 <;> simp [h1, h2, l56]
theorem w01 : wrap64 (0 + 1) = 1 := by unfold wrap64; omega
theorem w11 : wrap64 (1 + 1) = 2 := by unfold wrap64; omega
end Go.Proofs.Ytllfopbchdahoaa.M
