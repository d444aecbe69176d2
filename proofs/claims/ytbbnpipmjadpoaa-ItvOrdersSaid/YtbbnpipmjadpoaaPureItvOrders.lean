/- Leq, Join and Meet of any two intervals are what the document answers, and any interval is at most itself; no condition. -/
import Derived.Test.YtbbnpipmjadpoaaM1
import Derived.Test.YtbbnpipmjadpoaaPx12
namespace Go.Proofs.Ytbbnpipmjadpoaa.Pure
open Go Go.RowKit Go.Proofs.Ytbbnpipmjadpoaa.P Go.Proofs.YtbbnpipmjadpoaaW.PrintWords Go.Proofs.YtbbnpipmjadpoaaW.PrintMore Go.Proofs.Ytbbnpipmjadpoaa.M

theorem leq_eq (k : Nat) (a b c d : Int) : ∃ r, itv_Leq.f a b c d = some r ∧ gimbalref02_Leq.f (k + 2) a b c d = some r := by
  unfold itv_Leq.f gimbalref02_Leq.f itv_None.f gimbalref02_None.f
  rw [sound1, sound1, norm2, norm2]
  simp only [Option.bind_some]
  generalize C a b = p
  generalize C c d = q
  by_cases h : p.1 > p.2
  · rw [decide_eq_true h]
    exact ⟨true, rfl, rfl⟩
  · rw [decide_eq_false h]
    by_cases h2 : q.1 > q.2
    · rw [decide_eq_true h2]
      refine ⟨false, ?_, rfl⟩
      simp only [Bool.false_eq_true, if_false]
      (repeat' split) <;> rfl
    · rw [decide_eq_false h2]
      simp only [Bool.false_eq_true, if_false]
      by_cases h3 : q.1 ≤ p.1
      · rw [if_pos h3, if_pos h3]
        refine ⟨_, ?_, rfl⟩
        split <;> simp_all
      · rw [if_neg h3, if_neg h3]
        exact ⟨_, rfl, rfl⟩
theorem leq_self (a b : Int) : itv_Leq.f a b a b = some true := by
  unfold itv_Leq.f itv_None.f
  rw [sound1]
  simp only [Option.bind_some]
  generalize C a b = p
  by_cases h : p.1 > p.2
  · rw [decide_eq_true h]
    rfl
  · rw [decide_eq_false h]
    simp only [Bool.false_eq_true, if_false]
    rw [if_pos (by omega), if_pos (by omega)]
    rfl
theorem join_eq (k : Nat) (a b c d : Int) : ∃ r, itv_Join.f a b c d = some r ∧ gimbalref02_Join.f (k + 2) a b c d = some r := by
  unfold itv_Join.f gimbalref02_Join.f itv_None.f gimbalref02_None.f
  rw [sound1, sound1, norm2, norm2]
  simp only [Option.bind_some]
  generalize C a b = p
  generalize C c d = q
  have e1 : gimbalref02_less.f p.1 q.1 = some (mn p.1 q.1) := by
    unfold gimbalref02_less.f mn
    (repeat' split) <;> first | rfl | (congr 1; omega)
  have e2 : gimbalref02_more.f p.2 q.2 = some (mx p.2 q.2) := by
    unfold gimbalref02_more.f mx
    (repeat' split) <;> first | rfl | (congr 1; omega)
  rw [e1, e2]
  simp only [Option.bind_some]
  split
  · exact ⟨_, rfl, rfl⟩
  · split
    · exact ⟨_, rfl, rfl⟩
    · exact ⟨_, rfl, rfl⟩
theorem meet_eq (k : Nat) (a b c d : Int) : ∃ r, itv_Meet.f (k + 1) a b c d = some r ∧ gimbalref02_Meet.f (k + 3) a b c d = some r := by
  unfold itv_Meet.f gimbalref02_Meet.f itv_None.f gimbalref02_None.f
  rw [sound1, sound1, norm2, norm2]
  simp only [Option.bind_some, itv_Meet.j0, gimbalref02_Meet.j0]
  unfold itv_Empty.f gimbalref02_Empty.f
  simp only [Option.bind_some]
  generalize C a b = p
  generalize C c d = q
  have e1 : gimbalref02_more.f p.1 q.1 = some (mx p.1 q.1) := by
    unfold gimbalref02_more.f mx
    (repeat' split) <;> first | rfl | (congr 1; omega)
  have e2 : gimbalref02_less.f p.2 q.2 = some (mn p.2 q.2) := by
    unfold gimbalref02_less.f mn
    (repeat' split) <;> first | rfl | (congr 1; omega)
  rw [e1, e2]
  simp only [Option.bind_some]
  rw [of1, of2]
  simp only [Option.bind_some]
  by_cases h : decide (p.1 > p.2) = true
  · rw [h]
    exact ⟨_, rfl, rfl⟩
  · rw [Bool.not_eq_true] at h
    rw [h]
    simp only [Bool.false_eq_true, if_false]
    split <;> exact ⟨_, rfl, rfl⟩

theorem ItvOrders : gimballaw02_ItvOrders.Pure := by
  intro a b c d _ _ _ _
  refine ⟨3, ?_⟩
  obtain ⟨r1, h1, h1'⟩ := leq_eq 1 a b c d
  obtain ⟨r2, h2, h2'⟩ := leq_eq 1 c d a b
  obtain ⟨r3, h3, h3'⟩ := join_eq 1 a b c d
  obtain ⟨r4, h4, h4'⟩ := meet_eq 0 a b c d
  have h5 : itv_Meet.f 3 a b c d = some r4 := itv_Meet.mono a b c d 2 r4 (itv_Meet.mono a b c d 1 r4 h4)
  unfold gimballaw02_ItvOrders.f
  rw [h1, h1', h2, h2', h3, h3', h5, h4', leq_self]
  simp only [Option.bind_some, beq_self_eq_true, Bool.and_self, if_true]

end Go.Proofs.Ytbbnpipmjadpoaa.Pure
