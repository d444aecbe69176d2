/- What the law's proof needs of M3. -/
import Derived.Test.YtbbnpipmjadpoaaTrHM2
import Derived.Test.YtbbnpipmjadpoaaTrHPx16
namespace Go.Proofs.Ytbbnpipmjadpoaa.M
open Go Go.RowKit Go.Proofs.Ytbbnpipmjadpoaa.P Go.Proofs.YtbbnpipmjadpoaaW.PrintWords Go.Proofs.YtbbnpipmjadpoaaW.PrintMore
/-- are there numbers of both for which the comparison holds -/
def pr (op : Int) (p q : Int × Int) : Bool :=
  if op = 14 then !decide ((mt p q).1 > (mt p q).2) else if op = 15 then !(decide (p.1 = p.2 ∧ q.1 = q.2 ∧ p.1 = q.1)) else
  if op = 18 then decide (q.1 < p.2) else if op = 19 then decide (q.1 ≤ p.2) else
  if op = 16 then decide (p.1 < q.2) else decide (p.1 ≤ q.2)
/-- one side of an interval cut off leaves nothing just if .. -/
theorem low_none {p q : Int × Int} {g : Int} (hg : 0 ≤ g) (hg1 : g ≤ 1) (h : S p) (h2 : S q) : (low g p q).1 > (low g p q).2 ↔ ¬ p.1 + g ≤ q.2 := by
  unfold S at h h2
  unfold low
  by_cases e : q.2 < 4611686018427387904
  · rw [if_pos e, C_none]; omega
  · rw [if_neg e]; omega
theorem high_none {p q : Int × Int} {g : Int} (hg : 0 ≤ g) (hg1 : g ≤ 1) (h : S p) (h2 : S q) : (high g p q).1 > (high g p q).2 ↔ ¬ q.1 + g ≤ p.2 := by
  unfold S at h h2
  unfold high
  by_cases e : q.1 > -4611686018427387904
  · rw [if_pos e, C_none]; omega
  · rw [if_neg e]; omega
theorem wo_none {p q : Int × Int} (h : S p) (_ : S q) : (wo p q).1 > (wo p q).2 ↔ (p.1 = p.2 ∧ q.1 = q.2 ∧ p.1 = q.1) := by
  unfold S at h
  unfold wo
  by_cases e : q.1 = q.2
  · rw [if_pos e]
    by_cases e1 : q.1 = p.1
    · rw [if_pos e1, C_none]; omega
    · rw [if_neg e1]
      by_cases e2 : q.1 = p.2
      · rw [if_pos e2, C_none]; omega
      · rw [if_neg e2]; omega
  · rw [if_neg e]; omega
def tc (op : Int) (p q : Int × Int) : (Int × Int) × (Int × Int) :=
  if op = 14 then (mt p q, mt p q) else if op = 15 then (wo p q, wo q p) else
  if op = 18 then (high 1 p q, low 1 q p) else if op = 19 then (high 0 p q, low 0 q p) else
  if op = 16 then (low 1 p q, high 1 q p) else (low 0 p q, high 0 q p)
theorem tt_tc (op : Int) (p q : Int × Int) : tt op p q = fin (tc op p q).1 (tc op p q).2 := by
  unfold tt tc
  (repeat' split) <;> rfl
/-- both sides leave something just if there is a pair -/
theorem tc_none (op : Int) {p q : Int × Int} (h : S p) (h2 : S q) : ((tc op p q).1.1 > (tc op p q).1.2 ↔ pr op p q = false) ∧ ((tc op p q).2.1 > (tc op p q).2.2 ↔ pr op p q = false) := by
  unfold tc pr
  by_cases e1 : op = 14
  · simp only [if_pos e1, Bool.not_eq_false', decide_eq_true_eq, and_self]
  rw [if_neg e1, if_neg e1]
  by_cases e2 : op = 15
  · simp only [if_pos e2, Bool.not_eq_false', decide_eq_true_eq]
    rw [wo_none h h2, wo_none h2 h]
    constructor <;> omega
  rw [if_neg e2, if_neg e2]
  by_cases e3 : op = 18
  · simp only [if_pos e3, decide_eq_false_iff_not]
    rw [high_none (by omega) (by omega) h h2, low_none (by omega) (by omega) h2 h]
    constructor <;> omega
  rw [if_neg e3, if_neg e3]
  by_cases e4 : op = 19
  · simp only [if_pos e4, decide_eq_false_iff_not]
    rw [high_none (by omega) (by omega) h h2, low_none (by omega) (by omega) h2 h]
    constructor <;> omega
  rw [if_neg e4, if_neg e4]
  by_cases e5 : op = 16
  · simp only [if_pos e5, decide_eq_false_iff_not]
    rw [low_none (by omega) (by omega) h h2, high_none (by omega) (by omega) h2 h]
    constructor <;> omega
  rw [if_neg e5, if_neg e5]
  simp only [decide_eq_false_iff_not]
  rw [low_none (by omega) (by omega) h h2, high_none (by omega) (by omega) h2 h]
  constructor <;> omega
theorem tt_pr (op : Int) {p q : Int × Int} (h : S p) (h2 : S q) : tt op p q = if pr op p q = true then T4 (tc op p q).1 (tc op p q).2 else (1, 0, 1, 0) := by
  rw [tt_tc]
  obtain ⟨h3, h4⟩ := tc_none op h h2
  unfold fin T4
  cases e : pr op p q
  · rw [if_pos (Or.inl (h3.mpr e)), if_neg (by decide)]
  · rw [e] at h3 h4
    rw [if_neg (by intro hh; rcases hh with hh | hh; exact absurd (h3.mp hh) (by decide); exact absurd (h4.mp hh) (by decide)), if_pos rfl]
theorem S_of {a b : Int} (h : ¬ (C a b).1 > (C a b).2) : S (C a b) := by
  rcases C_cases a b with ⟨_, e⟩ | ⟨_, e⟩
  · exact absurd (by rw [e]; decide) h
  · exact e
theorem TT_none (op : Int) (ho : 14 ≤ op ∧ op ≤ 19) {p q : Int × Int} (h : S p) (h2 : S q) : decide ((TT op p q).1 > (TT op p q).2.1) = !pr op p q := by
  have h3 := h
  have h4 := h2
  unfold S at h3 h4
  unfold TT
  rw [if_neg (by omega), if_neg (by omega), tt_pr op h h2]
  obtain ⟨h5, h6⟩ := tc_none op h h2
  cases e : pr op p q
  · rfl
  · rw [if_pos rfl]
    apply decide_eq_false
    intro hh
    rw [h5.mp hh] at e
    exact absurd e (by decide)
/-- the comparison that holds where this one does not -/
def oth (op : Int) : Int := if op = 14 then 15 else if op = 15 then 14 else if op = 16 then 19 else if op = 17 then 18 else if op = 18 then 17 else 16
theorem oth_rd (op : Int) (h : 14 ≤ op ∧ op ≤ 19) : 0 ≤ wrap64 (op - 14) ∧ wrap64 (op - 14) < 6 ∧ rd ([15, 14, 19, 18, 17, 16] : List Int) (wrap64 (op - 14)) = oth op ∧ 14 ≤ oth op ∧ oth op ≤ 19 := by
  rw [w64 (by omega) (by omega)]
  refine ⟨by omega, by omega, ?_, ?_⟩
  · rcases (by omega : op = 14 ∨ op = 15 ∨ op = 16 ∨ op = 17 ∨ op = 18 ∨ op = 19) with h | h | h | h | h | h <;> subst h <;> rfl
  · unfold oth
    (repeat' split) <;> omega
def HH (op : Int) (p q : Int × Int) : Bool × Bool := if p.1 > p.2 ∨ q.1 > q.2 then (false, false) else if op < 14 ∨ op > 19 then (true, true) else (pr op p q, pr (oth op) p q)
theorem holds1 (k : Nat) (op a b c d : Int) : itv_Holds.f (k + 9) op a b c d = some (HH op (C a b) (C c d)) := by
  unfold itv_Holds.f HH
  rw [sound1, sound1, Option.bind_some, Option.bind_some]
  have hp := @S_of a b
  have hq := @S_of c d
  generalize C a b = p at *
  generalize C c d = q at *
  have jt : itv_Holds.j0 (k + 9) op true p.1 p.2 q.1 q.2 = some (false, false) := rfl
  unfold itv_None.f
  rw [Option.bind_some, Option.bind_some]
  by_cases h1 : p.1 > p.2
  · rw [decide_eq_true h1, if_pos rfl, jt, if_pos (Or.inl h1)]
  rw [decide_eq_false h1, if_neg (by decide)]
  by_cases h2 : q.1 > q.2
  · rw [decide_eq_true h2, jt, if_pos (Or.inr h2)]
  rw [decide_eq_false h2, if_neg (by omega)]
  have sp := hp h1
  have sq := hq h2
  simp only [itv_Holds.j0, Bool.false_eq_true, if_false]
  have e : (if op < 14 then itv_Holds.j1 (k + 8) op true p.1 p.2 q.1 q.2 else itv_Holds.j1 (k + 8) op (decide (op > 19)) p.1 p.2 q.1 q.2) = itv_Holds.j1 (k + 8) op (decide (op < 14 ∨ op > 19)) p.1 p.2 q.1 q.2 := by
    by_cases h : op < 14
    · rw [if_pos h, decide_eq_true (Or.inl h)]
    · rw [if_neg h]
      by_cases h2 : op > 19
      · rw [decide_eq_true h2, decide_eq_true (Or.inr h2)]
      · rw [decide_eq_false h2, decide_eq_false (by omega)]
  rw [e]
  by_cases h : op < 14 ∨ op > 19
  · rw [decide_eq_true h, if_pos h]; rfl
  rw [decide_eq_false h, if_neg h]
  simp only [itv_Holds.j1, Bool.false_eq_true, if_false]
  have ho : 14 ≤ op ∧ op ≤ 19 := by omega
  obtain ⟨g1, g2, g3, g4⟩ := oth_rd op ho
  rw [g3, test1, C_S sp, C_S sq, Option.bind_some, if_pos g1, if_pos g2, test1, C_S sp, C_S sq, Option.bind_some]
  unfold itv_None.f
  rw [Option.bind_some, Option.bind_some, TT_none op ho sp sq, TT_none _ g4 sp sq, Bool.not_not, Bool.not_not]
end Go.Proofs.Ytbbnpipmjadpoaa.M
