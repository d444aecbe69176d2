/- What the law's proof needs of PureItvReckons. -/
import Derived.Test.YtbbnpipmjadpoaaTrRM1
import Derived.Test.YtbbnpipmjadpoaaTrRPx40
namespace Go.Proofs.Ytbbnpipmjadpoaa.M
open Go Go.RowKit Go.Proofs.Ytbbnpipmjadpoaa.P Go.Proofs.YtbbnpipmjadpoaaW.PrintWords Go.Proofs.YtbbnpipmjadpoaaW.PrintMore
theorem mn_min (a b : Int) : mn a b = min a b := by unfold mn; split <;> omega
theorem mx_max (a b : Int) : mx a b = max a b := by unfold mx; split <;> omega
theorem less_mn (a b : Int) : gimbalref02_less.f a b = some (mn a b) := by
  unfold gimbalref02_less.f mn
  (repeat' split) <;> first | rfl | (congr 1; omega)
theorem more_mx (a b : Int) : gimbalref02_more.f a b = some (mx a b) := by
  unfold gimbalref02_more.f mx
  (repeat' split) <;> first | rfl | (congr 1; omega)
def fit (a : Int) : Int := mn (mx a (-4611686018427387904)) 4611686018427387904
theorem fit_le (a : Int) : -4611686018427387904 ≤ fit a ∧ fit a ≤ 4611686018427387904 := by
  unfold fit
  rw [mn_min, mx_max]
  omega
theorem fit_id {a : Int} (h1 : -4611686018427387904 ≤ a) (h2 : a ≤ 4611686018427387904) : fit a = a := by
  unfold fit
  rw [mn_min, mx_max]
  omega
theorem fit1 (a : Int) : bound_Fit.f a = some (fit a) := rfl
theorem fit2 (a : Int) : gimbalref01_Fit.f a = some (fit a) := by
  unfold gimbalref01_Fit.f fit
  rw [mn_min, mx_max]
  (repeat' split) <;> (congr 1; omega)
theorem up_eq (k : Nat) (a b : Int) : ∃ r, bound_Up.f a b = some r ∧ gimbalref01_Up.f (k + 1) a b = some r := by
  unfold bound_Up.f gimbalref01_Up.f
  rw [fit1, fit1, fit2, fit2]
  simp only [Option.bind_some, gimbalref01_Up.j0]
  obtain ⟨h1, h2⟩ := fit_le a
  obtain ⟨h3, h4⟩ := fit_le b
  generalize fit a = x at *
  generalize fit b = y at *
  by_cases e : x = 4611686018427387904
  · rw [if_pos e, if_pos e]
    exact ⟨_, rfl, rfl⟩
  · rw [if_neg e, if_neg e]
    by_cases e2 : y = 4611686018427387904
    · rw [if_pos e2, e2]
      exact ⟨_, rfl, rfl⟩
    · rw [if_neg e2, beq_eq_false_iff_ne.mpr e2]
      simp only [Bool.false_eq_true, if_false]
      refine ⟨_, rfl, ?_⟩
      have : wrap64 (x + y) = x + y := by unfold wrap64; omega
      rw [this, mn_min, mx_max]
      (repeat' split) <;> (congr 1; omega)
theorem down_eq (k : Nat) (a b : Int) : ∃ r, bound_Down.f a b = some r ∧ gimbalref01_Down.f (k + 1) a b = some r := by
  unfold bound_Down.f gimbalref01_Down.f
  rw [fit1, fit1, fit2, fit2]
  simp only [Option.bind_some]
  obtain ⟨r, h1, h2⟩ := up_eq k (wrap64 (-fit a)) (wrap64 (-fit b))
  rw [h1, h2]
  exact ⟨_, rfl, rfl⟩
theorem C_le (a b : Int) : -4611686018427387904 ≤ (C a b).1 ∧ (C a b).1 ≤ 4611686018427387904 ∧ -4611686018427387904 ≤ (C a b).2 ∧ (C a b).2 ≤ 4611686018427387904 := by
  unfold C lo hi
  (repeat' split) <;> (refine ⟨?_, ?_, ?_, ?_⟩ <;> (dsimp only; omega))
theorem neg_eq (k : Nat) (a b : Int) : ∃ r, itv_Neg.f a b = some r ∧ gimbalref02_Neg.f (k + 2) a b = some r := by
  unfold itv_Neg.f gimbalref02_Neg.f itv_None.f gimbalref02_None.f bound_Neg.f
  rw [sound1, norm2]
  simp only [Option.bind_some]
  obtain ⟨h1, h2, h3, h4⟩ := C_le a b
  generalize C a b = p at *
  rw [fit1, fit1, fit_id h1 h2, fit_id h3 h4]
  simp only [Option.bind_some]
  rw [of1, of2]
  split
  · exact ⟨_, rfl, rfl⟩
  · exact ⟨_, rfl, rfl⟩
theorem size_eq (a : Int) : gimbalref01_size.f a = bound_size.f a := rfl
theorem size_some (a : Int) : ∃ r, bound_size.f a = some r := by
  unfold bound_size.f
  split <;> exact ⟨_, rfl⟩
theorem bmul_eq (k : Nat) (a b : Int) : ∃ r, bound_Mul.f (k + 2) a b = some r ∧ gimbalref01_Mul.f (k + 2) a b = some r := by
  unfold bound_Mul.f gimbalref01_Mul.f
  rw [fit1, fit1, fit2, fit2]
  simp only [Option.bind_some]
  generalize fit a = x
  generalize fit b = y
  have key : ∀ t, ∃ r, bound_Mul.j0 (k + 2) x y t = some r ∧ gimbalref01_Mul.j0 (k + 2) x y t = some r := by
    intro t
    cases t with
    | true => exact ⟨0, rfl, rfl⟩
    | false =>
      obtain ⟨sx, hx⟩ := size_some x
      obtain ⟨sy, hy⟩ := size_some y
      obtain ⟨p, hp⟩ : ∃ p, bits_Mul64.f sx sy = some p := ⟨_, rfl⟩
      simp only [bound_Mul.j0, gimbalref01_Mul.j0, Bool.false_eq_true, if_false]
      rw [size_eq, size_eq, hx, hy]
      simp only [Option.bind_some]
      rw [hp]
      simp only [Option.bind_some, bound_Mul.j1, gimbalref01_Mul.j1]
      have ew : wrap64 (-4611686018427387904) = -4611686018427387904 := by decide +kernel
      rw [ew]
      by_cases h : p.1 = 0
      · rw [if_pos h, if_pos h]
        by_cases h2 : p.2 < 4611686018427387904
        · rw [decide_eq_true h2, decide_eq_false (by omega : ¬ p.2 ≥ 4611686018427387904)]
          simp only [Bool.false_eq_true, if_false, if_true]
          split <;> exact ⟨_, rfl, rfl⟩
        · rw [decide_eq_false h2, decide_eq_true (by omega : p.2 ≥ 4611686018427387904)]
          simp only [Bool.false_eq_true, if_false, if_true]
          split <;> exact ⟨_, rfl, rfl⟩
      · rw [if_neg h, if_neg h]
        simp only [Bool.false_eq_true, if_false, if_true]
        split <;> exact ⟨_, rfl, rfl⟩
  by_cases h : x = 0
  · rw [if_pos h, if_pos h]
    exact key true
  · rw [if_neg h, if_neg h]
    exact key _
theorem hull_eq (k : Nat) (a b c d : Int) : ∃ r, itv_hull.f a b c d = some r ∧ gimbalref02_hull.f (k + 2) a b c d = some r := by
  unfold itv_hull.f gimbalref02_hull.f
  rw [less_mn, less_mn, more_mx, more_mx]
  simp only [Option.bind_some]
  rw [less_mn, more_mx]
  simp only [Option.bind_some]
  have e1 : mn (mn (mn a b) c) d = mn (mn a b) (mn c d) := by
    simp only [mn_min]
    omega
  have e2 : mx (mx (mx a b) c) d = mx (mx a b) (mx c d) := by
    simp only [mx_max]
    omega
  rw [of1, of2, e1, e2]
  exact ⟨_, rfl, rfl⟩
theorem abs_eq (k : Nat) (a b : Int) : ∃ r, itv_Abs.f (k + 4) a b = some r ∧ gimbalref02_Abs.f (k + 4) a b = some r := by
  unfold itv_Abs.f gimbalref02_Abs.f itv_None.f gimbalref02_None.f
  rw [sound1, norm2]
  simp only [Option.bind_some]
  obtain ⟨h1, h2, _, _⟩ := C_le a b
  generalize C a b = p at *
  have key : ∀ t, ∃ r, itv_Abs.j0 (k + 4) t p.1 p.2 = some r ∧ gimbalref02_Abs.j0 (k + 4) t p.1 p.2 = some r := by
    intro t
    cases t with
    | true => exact ⟨_, rfl, rfl⟩
    | false =>
      simp only [itv_Abs.j0, gimbalref02_Abs.j0, Bool.false_eq_true, if_false]
      unfold bound_Neg.f
      rw [fit1, fit_id h1 h2, more_mx]
      obtain ⟨r, h3, h4⟩ := neg_eq (k + 1) p.1 p.2
      rw [h3, h4]
      simp only [Option.bind_some]
      rw [of1, of2]
      split <;> exact ⟨_, rfl, rfl⟩
  by_cases h : decide (p.1 > p.2) = true
  · rw [if_pos h, if_pos h]
    exact key true
  · rw [if_neg h, if_neg h]
    exact key _
theorem add_eq (k : Nat) (a b c d : Int) : ∃ r, itv_Add.f (k + 4) a b c d = some r ∧ gimbalref02_Add.f (k + 4) a b c d = some r := by
  unfold itv_Add.f itv_both_itv_Add_1.f gimbalref02_Add.f itv_None.f gimbalref02_None.f
  rw [sound1, sound1, norm2, norm2]
  simp only [Option.bind_some]
  generalize C a b = p
  generalize C c d = q
  have key : ∀ t, ∃ r, ((itv_both_itv_Add_1.j0 (k + 4) t p.1 p.2 q.1 q.2).bind fun bt => some (bt.1, bt.2)) = some r ∧ gimbalref02_Add.j0 (k + 4) t p.1 p.2 q.1 q.2 = some r := by
    intro t
    cases t with
    | true => exact ⟨_, rfl, rfl⟩
    | false =>
      simp only [itv_both_itv_Add_1.j0, gimbalref02_Add.j0, Bool.false_eq_true, if_false]
      unfold itv_Add_1.f
      obtain ⟨d, h1, h2⟩ := down_eq (k + 2) p.1 q.1
      obtain ⟨u, h3, h4⟩ := up_eq (k + 2) p.2 q.2
      rw [h1, h2, h3, h4]
      simp only [Option.bind_some]
      rw [of1, of2]
      exact ⟨_, rfl, rfl⟩
  by_cases h : decide (p.1 > p.2) = true
  · rw [if_pos h, if_pos h]
    exact key true
  · rw [if_neg h, if_neg h]
    exact key _
theorem mul_eq (k : Nat) (a b c d : Int) : ∃ r, itv_Mul.f (k + 4) a b c d = some r ∧ gimbalref02_Mul.f (k + 4) a b c d = some r := by
  unfold itv_Mul.f itv_both_itv_Mul_1.f gimbalref02_Mul.f itv_None.f gimbalref02_None.f
  rw [sound1, sound1, norm2, norm2]
  simp only [Option.bind_some]
  generalize C a b = p
  generalize C c d = q
  have key : ∀ t, ∃ r, ((itv_both_itv_Mul_1.j0 (k + 4) t p.1 p.2 q.1 q.2).bind fun bt => some (bt.1, bt.2)) = some r ∧ gimbalref02_Mul.j0 (k + 4) t p.1 p.2 q.1 q.2 = some r := by
    intro t
    cases t with
    | true => exact ⟨_, rfl, rfl⟩
    | false =>
      simp only [itv_both_itv_Mul_1.j0, gimbalref02_Mul.j0, Bool.false_eq_true, if_false]
      unfold itv_Mul_1.f
      obtain ⟨x1, h1, g1⟩ := bmul_eq (k + 1) p.1 q.1
      obtain ⟨x2, h2, g2⟩ := bmul_eq (k + 1) p.1 q.2
      obtain ⟨x3, h3, g3⟩ := bmul_eq (k + 1) p.2 q.1
      obtain ⟨x4, h4, g4⟩ := bmul_eq (k + 1) p.2 q.2
      obtain ⟨x5, h5, g5⟩ := hull_eq (k + 1) x1 x2 x3 x4
      rw [h1, h2, h3, h4, g1, g2, g3, g4]
      simp only [Option.bind_some]
      rw [h5, g5]
      exact ⟨_, rfl, rfl⟩
  by_cases h : decide (p.1 > p.2) = true
  · rw [if_pos h, if_pos h]
    exact key true
  · rw [if_neg h, if_neg h]
    exact key _
theorem min_eq (k : Nat) (a b c d : Int) : ∃ r, itv_Min.f (k + 4) a b c d = some r ∧ gimbalref02_Min.f (k + 4) a b c d = some r := by
  unfold itv_Min.f itv_both_itv_Min_1.f gimbalref02_Min.f itv_None.f gimbalref02_None.f
  rw [sound1, sound1, norm2, norm2]
  simp only [Option.bind_some]
  generalize C a b = p
  generalize C c d = q
  have key : ∀ t, ∃ r, ((itv_both_itv_Min_1.j0 (k + 4) t p.1 p.2 q.1 q.2).bind fun bt => some (bt.1, bt.2)) = some r ∧ gimbalref02_Min.j0 (k + 4) t p.1 p.2 q.1 q.2 = some r := by
    intro t
    cases t with
    | true => exact ⟨_, rfl, rfl⟩
    | false =>
      simp only [itv_both_itv_Min_1.j0, gimbalref02_Min.j0, Bool.false_eq_true, if_false]
      unfold itv_Min_1.f
      rw [less_mn, less_mn]
      simp only [Option.bind_some]
      rw [of1, of2]
      exact ⟨_, rfl, rfl⟩
  by_cases h : decide (p.1 > p.2) = true
  · rw [if_pos h, if_pos h]
    exact key true
  · rw [if_neg h, if_neg h]
    exact key _
theorem max_eq (k : Nat) (a b c d : Int) : ∃ r, itv_Max.f (k + 4) a b c d = some r ∧ gimbalref02_Max.f (k + 4) a b c d = some r := by
  unfold itv_Max.f itv_both_itv_Max_1.f gimbalref02_Max.f itv_None.f gimbalref02_None.f
  rw [sound1, sound1, norm2, norm2]
  simp only [Option.bind_some]
  generalize C a b = p
  generalize C c d = q
  have key : ∀ t, ∃ r, ((itv_both_itv_Max_1.j0 (k + 4) t p.1 p.2 q.1 q.2).bind fun bt => some (bt.1, bt.2)) = some r ∧ gimbalref02_Max.j0 (k + 4) t p.1 p.2 q.1 q.2 = some r := by
    intro t
    cases t with
    | true => exact ⟨_, rfl, rfl⟩
    | false =>
      simp only [itv_both_itv_Max_1.j0, gimbalref02_Max.j0, Bool.false_eq_true, if_false]
      unfold itv_Max_1.f
      rw [more_mx, more_mx]
      simp only [Option.bind_some]
      rw [of1, of2]
      exact ⟨_, rfl, rfl⟩
  by_cases h : decide (p.1 > p.2) = true
  · rw [if_pos h, if_pos h]
    exact key true
  · rw [if_neg h, if_neg h]
    exact key _
theorem sub_eq (k : Nat) (a b c d : Int) : ∃ r, itv_Sub.f (k + 4) a b c d = some r ∧ gimbalref02_Sub.f (k + 4) a b c d = some r := by
  unfold itv_Sub.f gimbalref02_Sub.f
  obtain ⟨n, h1, h2⟩ := neg_eq (k + 2) c d
  obtain ⟨r, h3, h4⟩ := add_eq k a b n.1 n.2
  rw [h1, h2]
  simp only [Option.bind_some]
  rw [h3, h4]
  exact ⟨_, rfl, rfl⟩
end Go.Proofs.Ytbbnpipmjadpoaa.M
namespace Go.Proofs.Ytbbnpipmjadpoaa.Pure
open Go Go.RowKit Go.Proofs.Ytbbnpipmjadpoaa.P Go.Proofs.YtbbnpipmjadpoaaW.PrintWords Go.Proofs.YtbbnpipmjadpoaaW.PrintMore Go.Proofs.Ytbbnpipmjadpoaa.M
theorem ItvReckons : gimballaw02_ItvReckons.Pure := by
  intro a b c d _ _ _ _
  refine ⟨24, ?_⟩
  obtain ⟨r1, h1, g1⟩ := add_eq 20 a b c d
  obtain ⟨r2, h2, g2⟩ := sub_eq 20 a b c d
  obtain ⟨r3, h3, g3⟩ := mul_eq 20 a b c d
  obtain ⟨r4, h4, g4⟩ := neg_eq 22 a b
  obtain ⟨r5, h5, g5⟩ := abs_eq 20 a b
  obtain ⟨r6, h6, g6⟩ := min_eq 20 a b c d
  obtain ⟨r7, h7, g7⟩ := max_eq 20 a b c d
  have h8 : gimballaw02_awake.f 24 = some true := by decide +kernel
  unfold gimballaw02_ItvReckons.f
  rw [h1, g1, h2, g2, h3, g3, h4, g4, h5, g5, h6, g6, h7, g7, h8]
  simp only [Option.bind_some, beq_self_eq_true, Bool.and_self, if_true]
end Go.Proofs.Ytbbnpipmjadpoaa.Pure
