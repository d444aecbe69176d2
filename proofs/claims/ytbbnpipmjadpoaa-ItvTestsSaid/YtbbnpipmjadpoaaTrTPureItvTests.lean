/- What the law's proof needs of PureItvTests. -/
import Derived.Test.YtbbnpipmjadpoaaTrTM3
import Derived.Test.YtbbnpipmjadpoaaTrTPx24
namespace Go.Proofs.Ytbbnpipmjadpoaa.M
open Go Go.RowKit Go.Proofs.Ytbbnpipmjadpoaa.P Go.Proofs.YtbbnpipmjadpoaaW.PrintWords Go.Proofs.YtbbnpipmjadpoaaW.PrintMore
theorem pairlt (k : Nat) {p q : Int × Int} (h : S p) (h2 : S q) : gimbalref02_pair.f (k + 2) 16 p.1 p.2 q.1 q.2 = some (decide (p.1 < q.2)) := by
  unfold S at h h2
  simp only [gimbalref02_pair.f]
  have key : ∀ t, gimbalref02_pair.j0 (k + 1) 16 t p.1 p.2 q.1 q.2 = some (decide (p.1 < q.2)) := by
    intro t
    simp only [gimbalref02_pair.j0]
    rw [if_neg (by decide), if_neg (by decide), if_pos trivial]
    by_cases e : p.1 = -4611686018427387904
    · rw [if_pos e, decide_eq_true (by omega : p.1 < q.2)]
    · rw [if_neg e]
      by_cases e2 : q.2 = 4611686018427387904
      · rw [if_pos e2, decide_eq_true (by omega : p.1 < q.2)]
      · rw [if_neg e2]
  (repeat' split) <;> exact key _
theorem pairle (k : Nat) {p q : Int × Int} (h : S p) (h2 : S q) : gimbalref02_pair.f (k + 2) 17 p.1 p.2 q.1 q.2 = some (decide (p.1 ≤ q.2)) := by
  unfold S at h h2
  simp only [gimbalref02_pair.f]
  have key : ∀ t, gimbalref02_pair.j0 (k + 1) 17 t p.1 p.2 q.1 q.2 = some (decide (p.1 ≤ q.2)) := by
    intro t
    simp only [gimbalref02_pair.j0]
    rw [if_neg (by decide), if_neg (by decide), if_neg (by decide), if_pos trivial]
    by_cases e : p.1 = -4611686018427387904
    · rw [if_pos e, decide_eq_true (by omega : p.1 ≤ q.2)]
    · rw [if_neg e]
      by_cases e2 : q.2 = 4611686018427387904
      · rw [if_pos e2, decide_eq_true (by omega : p.1 ≤ q.2)]
      · rw [if_neg e2]
  (repeat' split) <;> exact key _
theorem pair2 (k : Nat) (op : Int) (ho : 14 ≤ op ∧ op ≤ 19) {p q : Int × Int} (h : S p) (h2 : S q) : gimbalref02_pair.f (k + 5) op p.1 p.2 q.1 q.2 = some (pr op p q) := by
  unfold pr
  have key : ∀ t, (op ≠ 15 ∨ t = decide (p.1 = p.2 ∧ q.1 = q.2 ∧ p.1 = q.1)) → gimbalref02_pair.j0 (k + 4) op t p.1 p.2 q.1 q.2 = some (pr op p q) := by
    intro t ht
    unfold pr
    simp only [gimbalref02_pair.j0]
    rw [pairlt (k + 1) h2 h, pairle (k + 1) h2 h, meetS2 k h h2]
    simp only [gimbalref02_None.f, Option.bind_some]
    by_cases e1 : op = 14
    · rw [if_pos e1, if_pos e1]
    rw [if_neg e1, if_neg e1]
    by_cases e2 : op = 15
    · rw [if_pos e2, if_pos e2]
      rcases ht with ht | ht
      · exact absurd e2 ht
      · rw [ht]
    rw [if_neg e2, if_neg e2]
    by_cases e3 : op = 18
    · subst e3; rfl
    by_cases e4 : op = 19
    · subst e4; rfl
    rw [if_neg e3, if_neg e4]
    have g16 := pairlt (k + 3) h h2
    have g17 := pairle (k + 3) h h2
    unfold S at h h2
    by_cases e5 : op = 16
    · rw [if_pos e5, if_pos e5]
      (repeat' split) <;> first | rfl | (congr 1; symm; (simp only [decide_eq_true_eq] <;> omega))
    · rw [if_neg e5, if_pos (by omega : op = 17), if_neg e5]
      (repeat' split) <;> first | rfl | (congr 1; symm; (simp only [decide_eq_true_eq] <;> omega))
  simp only [gimbalref02_pair.f]
  have kk := fun t ht => (key t ht)
  unfold pr at kk
  by_cases e1 : p.1 = p.2
  · rw [if_pos e1]
    by_cases e2 : q.1 = q.2
    · rw [if_pos e2]
      refine kk _ (Or.inr ?_)
      by_cases e3 : p.1 = q.1
      · rw [decide_eq_true ⟨e1, e2, e3⟩, e3]; exact beq_self_eq_true _
      · rw [decide_eq_false (fun h => e3 h.2.2)]; exact beq_eq_false_iff_ne.mpr e3
    · rw [if_neg e2]
      refine kk _ (Or.inr ?_)
      rw [decide_eq_false (fun h => e2 h.2.1)]
  · rw [if_neg e1]
    refine kk _ (Or.inr ?_)
    rw [decide_eq_false (fun h => e1 h.1)]
theorem below2 (k : Nat) {p q : Int × Int} {g : Int} (hg : 0 ≤ g) (hg1 : g ≤ 1) (_ : S p) (h2 : S q) : gimbalref02_below.f (k + 2) p.1 p.2 q.1 q.2 g = some (low g p q) := by
  unfold S at h2
  unfold gimbalref02_below.f low
  rw [w64 (by omega) (by omega), lessm, Option.bind_some, of2]
  by_cases e : q.2 = 4611686018427387904
  · rw [if_pos e, if_neg (by omega)]
  · rw [if_neg e, if_pos (by omega)]; rfl
theorem above2 (k : Nat) {p q : Int × Int} {g : Int} (hg : 0 ≤ g) (hg1 : g ≤ 1) (_ : S p) (h2 : S q) : gimbalref02_above.f (k + 2) p.1 p.2 q.1 q.2 g = some (high g p q) := by
  unfold S at h2
  unfold gimbalref02_above.f high
  rw [w64 (by omega) (by omega), morem, Option.bind_some, of2]
  by_cases e : q.1 = -4611686018427387904
  · rw [if_pos e, if_neg (by omega)]
  · rw [if_neg e, if_pos (by omega)]; rfl
theorem without2 (k : Nat) {p q : Int × Int} (h : S p) (_ : S q) : gimbalref02_without.f (k + 2) p.1 p.2 q.1 q.2 = some (wo p q) := by
  unfold S at h
  unfold gimbalref02_without.f wo
  rw [w64 (by omega) (by omega), w64 (by omega) (by omega), of2, of2]
  by_cases e : q.1 = q.2
  · rw [if_pos e, if_pos e]
    by_cases e1 : p.1 = q.1
    · rw [if_pos e1, if_pos e1.symm]; rfl
    · rw [if_neg e1, if_neg (show ¬ q.1 = p.1 from fun h => e1 h.symm)]
      by_cases e2 : p.2 = q.1
      · rw [if_pos e2, if_pos e2.symm]; rfl
      · rw [if_neg e2, if_neg (show ¬ q.1 = p.2 from fun h => e2 h.symm)]
  · rw [if_neg e, if_neg e]
theorem cmp2 (op : Int) : gimbalref02_compares.f op = some (decide (14 ≤ op ∧ op ≤ 19)) := by
  unfold gimbalref02_compares.f
  by_cases h : op ≥ 14
  · rw [if_pos h]; congr 1; simp only [show 14 ≤ op from h, true_and]
  · rw [if_neg h, decide_eq_false (by omega)]
theorem test2 (k : Nat) (op a b c d : Int) : gimbalref02_Test.f (k + 7) op a b c d = some (TT op (C a b) (C c d)) := by
  unfold gimbalref02_Test.f TT
  rw [norm2, norm2, cmp2, Option.bind_some, Option.bind_some, Option.bind_some]
  have hp := @S_of a b
  have hq := @S_of c d
  generalize C a b = p at *
  generalize C c d = q at *
  by_cases h : 14 ≤ op ∧ op ≤ 19
  · rw [decide_eq_true h, if_pos rfl, if_neg (by omega)]
    unfold gimbalref02_None.f
    rw [Option.bind_some, Option.bind_some]
    have jt : gimbalref02_Test.j0 (k + 7) op true p.1 p.2 q.1 q.2 = some (1, 0, 1, 0) := rfl
    by_cases h1 : p.1 > p.2
    · rw [decide_eq_true h1, if_pos rfl, jt, if_pos (Or.inl h1)]
    rw [decide_eq_false h1, if_neg (by decide)]
    by_cases h2 : q.1 > q.2
    · rw [decide_eq_true h2, if_pos rfl, jt, if_pos (Or.inr h2)]
    rw [decide_eq_false h2, if_neg (by decide), if_neg (by omega)]
    have sp := hp h1
    have sq := hq h2
    rw [pair2 (k + 2) op h sp sq, Option.bind_some, tt_pr op sp sq]
    cases pr op p q
    · rw [if_neg (by decide)]; exact jt
    · rw [if_pos rfl]
      unfold tc
      simp only [gimbalref02_Test.j0, Bool.not_true, Bool.false_eq_true, if_false]
      rw [meetS2 (k + 3) sp sq, without2 (k + 4) sp sq, without2 (k + 4) sq sp]
      rw [below2 (k + 4) (by omega) (by omega) sp sq, above2 (k + 4) (by omega) (by omega) sq sp]
      rw [below2 (k + 4) (by omega) (by omega) sp sq, above2 (k + 4) (by omega) (by omega) sq sp]
      rw [below2 (k + 4) (by omega) (by omega) sq sp, above2 (k + 4) (by omega) (by omega) sp sq]
      rw [below2 (k + 4) (by omega) (by omega) sq sp, above2 (k + 4) (by omega) (by omega) sp sq]
      unfold T4
      by_cases e1 : op = 14
      · rw [if_pos e1, if_pos e1]; rfl
      rw [if_neg e1, if_neg e1]
      by_cases e2 : op = 15
      · rw [if_pos e2, if_pos e2]; rfl
      rw [if_neg e2, if_neg e2]
      by_cases e3 : op = 16
      · rw [if_pos e3]; subst e3; rfl
      rw [if_neg e3]
      by_cases e4 : op = 17
      · rw [if_pos e4]; subst e4; rfl
      rw [if_neg e4]
      by_cases e5 : op = 18
      · rw [if_pos e5, if_pos e5]; rfl
      rw [if_neg e5, if_neg e5, if_pos (by omega)]; rfl
  · rw [decide_eq_false h, if_neg (by decide), if_pos (by omega)]
    rfl
theorem other2 (op : Int) (h : 14 ≤ op ∧ op ≤ 19) : gimbalref02_other.f op = some (oth op) := by
  rcases (by omega : op = 14 ∨ op = 15 ∨ op = 16 ∨ op = 17 ∨ op = 18 ∨ op = 19) with h | h | h | h | h | h <;> subst h <;> decide +kernel
theorem holds2 (k : Nat) (op a b c d : Int) : gimbalref02_Holds.f (k + 9) op a b c d = some (HH op (C a b) (C c d)) := by
  unfold gimbalref02_Holds.f HH
  rw [norm2, norm2, Option.bind_some, Option.bind_some]
  have hp := @S_of a b
  have hq := @S_of c d
  generalize C a b = p at *
  generalize C c d = q at *
  have jt : gimbalref02_Holds.j0 (k + 9) op true p.1 p.2 q.1 q.2 = some (false, false) := rfl
  unfold gimbalref02_None.f
  rw [Option.bind_some, Option.bind_some]
  by_cases h1 : p.1 > p.2
  · rw [decide_eq_true h1, if_pos rfl, jt, if_pos (Or.inl h1)]
  rw [decide_eq_false h1, if_neg (by decide)]
  by_cases h2 : q.1 > q.2
  · rw [decide_eq_true h2, jt, if_pos (Or.inr h2)]
  rw [decide_eq_false h2, if_neg (by omega)]
  have sp := hp h1
  have sq := hq h2
  simp only [gimbalref02_Holds.j0, Bool.false_eq_true, if_false]
  rw [cmp2, Option.bind_some]
  by_cases h : op < 14 ∨ op > 19
  · rw [decide_eq_false (by omega), if_neg (by decide), if_pos h]
  · have ho : 14 ≤ op ∧ op ≤ 19 := by omega
    obtain ⟨g1, g2, g3, g4⟩ := oth_rd op ho
    rw [decide_eq_true ho, if_pos rfl, if_neg h, pair2 (k + 3) op ho sp sq, Option.bind_some]
    rw [other2 op ho, Option.bind_some, pair2 (k + 3) _ g4 sp sq, Option.bind_some]
theorem awake1 : gimballaw02_awake.f 12 = some true := by decide +kernel
end Go.Proofs.Ytbbnpipmjadpoaa.M
namespace Go.Proofs.Ytbbnpipmjadpoaa.Pure
open Go Go.RowKit Go.Proofs.Ytbbnpipmjadpoaa.P Go.Proofs.YtbbnpipmjadpoaaW.PrintWords Go.Proofs.YtbbnpipmjadpoaaW.PrintMore Go.Proofs.Ytbbnpipmjadpoaa.M
theorem ItvTests : gimballaw02_ItvTests.Pure := by
  intro op a b c d _ _ _ _ _
  refine ⟨12, ?_⟩
  unfold gimballaw02_ItvTests.f
  rw [test1 5, test2 5, holds1 3, holds2 3, awake1]
  generalize TT op (C a b) (C c d) = t
  generalize HH op (C a b) (C c d) = u
  simp only [Option.bind_some, beq_self_eq_true, Bool.and_self, if_true]
end Go.Proofs.Ytbbnpipmjadpoaa.Pure
