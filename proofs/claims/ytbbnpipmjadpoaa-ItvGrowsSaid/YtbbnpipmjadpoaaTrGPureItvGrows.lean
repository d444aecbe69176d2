/- What the law's proof needs of PureItvGrows. -/
import Derived.Test.YtbbnpipmjadpoaaTrGU3
import Derived.Test.YtbbnpipmjadpoaaTrGU
import Derived.Test.YtbbnpipmjadpoaaTrGPx0
import Derived.Test.YtbbnpipmjadpoaaTrGPx1
import Derived.Test.YtbbnpipmjadpoaaTrGPx2
import Derived.Test.YtbbnpipmjadpoaaTrGPx3
import Derived.Test.YtbbnpipmjadpoaaTrGPx15
import Derived.Test.YtbbnpipmjadpoaaTrGPx16
import Derived.Test.YtbbnpipmjadpoaaTrGPx6
import Derived.Test.YtbbnpipmjadpoaaTrGPx8
import Derived.Test.YtbbnpipmjadpoaaTrGPx50
import Derived.Test.YtbbnpipmjadpoaaTrGPx34
import Derived.Test.YtbbnpipmjadpoaaTrGPx29
import Derived.Test.YtbbnpipmjadpoaaTrGPx35
import Derived.Laws.BitsLemmas
import Derived.Laws.Bits64
import Derived.Test.YtbbnpipmjadpoaaTrGPx55
namespace Go.Proofs.Ytbbnpipmjadpoaa.M
open Go Go.RowKit Go.Proofs.Ytbbnpipmjadpoaa.P Go.Proofs.YtbbnpipmjadpoaaW.PrintWords Go.Proofs.YtbbnpipmjadpoaaW.PrintMore
def lo (a : Int) : Int := if a ≥ 4611686018427387904 then 4611686018427387903 else if a ≤ -4611686018427387904 then -4611686018427387904 else a
def hi (b : Int) : Int := if b ≥ 4611686018427387904 then 4611686018427387904 else if b ≤ -4611686018427387904 then -4611686018427387903 else b
def C (a b : Int) : Int × Int := if a > b then (1, 0) else (lo a, hi b)
theorem of1 (a b : Int) : itv_Of.f a b = some (C a b) := by
  unfold itv_Of.f itv_Empty.f C lo hi mx mn
  simp only [Option.bind_some]
  by_cases h : a > b
  · rw [if_pos h, if_pos h]
  · rw [if_neg h, if_neg h]
    by_cases h1 : a ≥ 4611686018427387904
    · by_cases h2 : b ≤ -4611686018427387904
      · omega
      · rw [if_pos h1, if_pos h1, if_neg h2, if_neg h2, if_pos (by omega : b ≥ 4611686018427387904)]
        congr 1; congr 1
        split <;> omega
    · rw [if_neg h1, if_neg h1]
      by_cases h2 : b ≤ -4611686018427387904
      · rw [if_pos h2, if_neg (by omega : ¬ b ≥ 4611686018427387904), if_pos h2]
        congr 1; congr 1
        (repeat' split) <;> omega
      · rw [if_neg h2, if_neg h2]
        congr 1; congr 1 <;> ((repeat' split) <;> omega)
theorem sound1 (a b : Int) : itv_sound.f a b = some (C a b) := by unfold itv_sound.f; rw [of1]; rfl
theorem mnm (a b : Int) : mn a b = min a b := by unfold mn; split <;> omega
theorem mxm (a b : Int) : mx a b = max a b := by unfold mx; split <;> omega
/-- an interval with numbers, as all functions take it -/
def S (p : Int × Int) : Prop := -4611686018427387904 ≤ p.1 ∧ p.1 < 4611686018427387904 ∧ -4611686018427387904 < p.2 ∧ p.2 ≤ 4611686018427387904 ∧ p.1 ≤ p.2
theorem C_cases (a b : Int) : (a > b ∧ C a b = (1, 0)) ∨ (a ≤ b ∧ S (C a b)) := by
  unfold C S
  by_cases h : a > b
  · left; rw [if_pos h]; exact ⟨h, rfl⟩
  · right; rw [if_neg h]
    unfold lo hi
    dsimp only
    (repeat' split) <;> omega
theorem C_none (a b : Int) : (C a b).1 > (C a b).2 ↔ a > b := by
  rcases C_cases a b with ⟨h, e⟩ | ⟨h, e⟩
  · rw [e]; simp only [h, iff_true]; decide
  · unfold S at e; omega
theorem C_S {p : Int × Int} (h : S p) : C p.1 p.2 = p := by
  unfold S at h
  unfold C lo hi
  rw [if_neg (by omega)]
  apply Prod.ext <;> dsimp only <;> (repeat' split) <;> omega
theorem C_two (a b : Int) : C (C a b).1 (C a b).2 = C a b := by
  rcases C_cases a b with ⟨h, e⟩ | ⟨h, e⟩
  · rw [e]; rfl
  · exact C_S e
def fin (x y : Int × Int) : Int × Int × Int × Int := if x.1 > x.2 ∨ y.1 > y.2 then (1, 0, 1, 0) else (x.1, x.2, y.1, y.2)
def wo (p q : Int × Int) : Int × Int := if q.1 = q.2 then (if q.1 = p.1 then C (p.1 + 1) p.2 else if q.1 = p.2 then C p.1 (p.2 - 1) else p) else p
def low (g : Int) (p q : Int × Int) : Int × Int := if q.2 < 4611686018427387904 then C p.1 (min p.2 (q.2 - g)) else p
def high (g : Int) (p q : Int × Int) : Int × Int := if q.1 > -4611686018427387904 then C (max p.1 (q.1 + g)) p.2 else p
def mt (p q : Int × Int) : Int × Int := C (max p.1 q.1) (min p.2 q.2)
def T4 (p q : Int × Int) : Int × Int × Int × Int := (p.1, p.2, q.1, q.2)
def tt (op : Int) (p q : Int × Int) : Int × Int × Int × Int :=
  if op = 14 then fin (mt p q) (mt p q) else if op = 15 then fin (wo p q) (wo q p) else
  if op = 18 then fin (high 1 p q) (low 1 q p) else if op = 19 then fin (high 0 p q) (low 0 q p) else
  if op = 16 then fin (low 1 p q) (high 1 q p) else fin (low 0 p q) (high 0 q p)
/-- what is left of two intervals (after both were made sound) -/
def TT (op : Int) (p q : Int × Int) : Int × Int × Int × Int :=
  if op < 14 ∨ op > 19 then T4 p q else if p.1 > p.2 ∨ q.1 > q.2 then (1, 0, 1, 0) else tt op p q
theorem upto1 (k : Nat) (p : Int × Int) (x : Int) : itv_upTo.f (k + 1) p.1 p.2 x = some (C p.1 (min p.2 x)) := by
  unfold itv_upTo.f
  simp only [itv_upTo.j0, itv_Empty.f, of1, Option.bind_some, mnm]
  rw [Int.min_comm x]
  by_cases h1 : p.1 > -4611686018427387904
  · rw [if_pos h1]
    by_cases h2 : p.1 > min p.2 x
    · rw [decide_eq_true h2, C, if_pos h2]
      rfl
    · rw [decide_eq_false h2]
      rfl
  · rw [if_neg h1]
    rfl
theorem from1 (k : Nat) (p : Int × Int) (x : Int) : itv_from.f (k + 1) p.1 p.2 x = some (C (max p.1 x) p.2) := by
  unfold itv_from.f
  simp only [itv_from.j0, itv_Empty.f, of1, Option.bind_some, mxm]
  rw [Int.max_comm x]
  by_cases h1 : p.2 < 4611686018427387904
  · rw [if_pos h1]
    by_cases h2 : max p.1 x > p.2
    · rw [decide_eq_true h2, C, if_pos h2]
      rfl
    · rw [decide_eq_false h2]
      rfl
  · rw [if_neg h1]
    rfl
theorem w64 {x : Int} (h1 : -9223372036854775808 ≤ x) (h2 : x < 9223372036854775808) : wrap64 x = x := by unfold wrap64; omega
theorem without1 (k : Nat) {p q : Int × Int} (h : S p) (h2 : S q) : itv_without.f (k + 1) p.1 p.2 q.1 q.2 = some (wo p q) := by
  unfold itv_without.f wo
  have hp := h
  have hq := h2
  unfold S at hp hq
  rw [w64 (by omega) (by omega), w64 (by omega) (by omega)]
  rw [from1 k, upto1 k]
  simp only [Option.bind_some]
  by_cases e : q.1 = q.2
  · rw [if_pos e, if_pos e]
    by_cases e1 : q.1 = p.1
    · rw [if_pos e1, if_pos e1, show max p.1 (q.1 + 1) = p.1 + 1 by omega]
    · rw [if_neg e1, if_neg e1]
      by_cases e2 : q.1 = p.2
      · rw [if_pos e2, if_pos e2, show min p.2 (q.1 - 1) = p.2 - 1 by omega]
      · rw [if_neg e2, if_neg e2]
  · rw [if_neg e, if_neg e]
theorem meet1 (k : Nat) (a b c d : Int) : itv_Meet.f (k + 1) a b c d = some (if (C a b).1 > (C a b).2 ∨ (C c d).1 > (C c d).2 then (1, 0) else mt (C a b) (C c d)) := by
  unfold itv_Meet.f itv_None.f mt
  rw [sound1, sound1]
  simp only [Option.bind_some, itv_Meet.j0, itv_Empty.f, of1, mnm, mxm]
  by_cases h : (C a b).1 > (C a b).2
  · rw [decide_eq_true h, if_pos (Or.inl h)]; rfl
  · rw [decide_eq_false h]
    by_cases h2 : (C c d).1 > (C c d).2
    · rw [decide_eq_true h2, if_pos (Or.inr h2)]; rfl
    · have e : ¬ ((C a b).1 > (C a b).2 ∨ (C c d).1 > (C c d).2) := by omega
      rw [decide_eq_false h2, if_neg e]; rfl
theorem meetS1 (k : Nat) {p q : Int × Int} (h : S p) (h2 : S q) : itv_Meet.f (k + 1) p.1 p.2 q.1 q.2 = some (mt p q) := by
  rw [meet1, C_S h, C_S h2]
  unfold S at h h2
  rw [if_neg (by omega)]
theorem j5 (k : Nat) (x y : Int × Int) : itv_Test.j5 (k + 2) x.1 x.2 y.1 y.2 = some (fin x y) := by
  simp only [itv_Test.j5, itv_Test.j6, itv_None.f, itv_Empty.f, Option.bind_some]
  unfold fin
  by_cases h : x.1 > x.2
  · rw [decide_eq_true h, if_pos (Or.inl h)]; rfl
  · rw [decide_eq_false h]
    by_cases h2 : y.1 > y.2
    · rw [decide_eq_true h2, if_pos (Or.inr h2)]; rfl
    · have e : ¬ (x.1 > x.2 ∨ y.1 > y.2) := by omega
      rw [decide_eq_false h2, if_neg e]; rfl
theorem j3 (k : Nat) (t : Bool) {g : Int} (hg : 0 ≤ g) (hg1 : g ≤ 1) {p q : Int × Int} (h : S p) (h2 : S q) : itv_Test.j3 (k + 4) t g p.1 p.2 q.1 q.2 = some (if t = true then fin (high g q p) (low g p q) else fin (low g p q) (high g q p)) := by
  have hp := h
  have hq := h2
  unfold S at hp hq
  have key : ∀ z : Int × Int, itv_Test.j4 (k + 3) t g p.1 p.2 q.1 q.2 z.1 z.2 q.1 q.2 = some (if t = true then fin (high g q p) z else fin z (high g q p)) := by
    intro z
    simp only [itv_Test.j4]
    rw [w64 (by omega) (by omega), from1 (k + 1)]
    rw [Option.bind_some, j5, j5, j5, j5]
    unfold high
    by_cases h1 : p.1 > -4611686018427387904
    · rw [if_pos h1, if_pos h1]
      cases t <;> rfl
    · rw [if_neg h1, if_neg h1]
      cases t <;> rfl
  simp only [itv_Test.j3]
  rw [w64 (by omega) (by omega), upto1 (k + 2)]
  rw [Option.bind_some, key, key]
  unfold low
  by_cases h1 : q.2 < 4611686018427387904
  · rw [if_pos h1, if_pos h1]
  · rw [if_neg h1, if_neg h1]
theorem test1 (k : Nat) (op a b c d : Int) : itv_Test.f (k + 7) op a b c d = some (TT op (C a b) (C c d)) := by
  unfold itv_Test.f TT
  rw [sound1, sound1, Option.bind_some, Option.bind_some]
  have hp := C_cases a b
  have hq := C_cases c d
  generalize C a b = p at *
  generalize C c d = q at *
  have e : (if op < 14 then itv_Test.j0 (k + 7) op true p.1 p.2 q.1 q.2 else itv_Test.j0 (k + 7) op (decide (op > 19)) p.1 p.2 q.1 q.2) = itv_Test.j0 (k + 7) op (decide (op < 14 ∨ op > 19)) p.1 p.2 q.1 q.2 := by
    by_cases h : op < 14
    · rw [if_pos h, decide_eq_true (Or.inl h)]
    · rw [if_neg h]
      by_cases h2 : op > 19
      · rw [decide_eq_true h2, decide_eq_true (Or.inr h2)]
      · rw [decide_eq_false h2, decide_eq_false (by omega)]
  rw [e]
  simp only [itv_Test.j0]
  by_cases h : op < 14 ∨ op > 19
  · rw [decide_eq_true h, if_pos h]; rfl
  rw [decide_eq_false h, if_neg h]
  have e2 : (itv_None.f p.1 p.2).bind (fun t269 => if t269 = true then itv_Test.j1 (k + 6) op true p.1 p.2 q.1 q.2 else (itv_None.f q.1 q.2).bind fun t270 => itv_Test.j1 (k + 6) op t270 p.1 p.2 q.1 q.2) = itv_Test.j1 (k + 6) op (decide (p.1 > p.2 ∨ q.1 > q.2)) p.1 p.2 q.1 q.2 := by
    unfold itv_None.f
    by_cases h : p.1 > p.2
    · rw [decide_eq_true h, decide_eq_true (Or.inl h)]; rfl
    · rw [decide_eq_false h]
      by_cases h2 : q.1 > q.2
      · rw [decide_eq_true h2, decide_eq_true (Or.inr h2)]; rfl
      · rw [decide_eq_false h2, decide_eq_false (by omega)]; rfl
  rw [if_neg (by decide), e2]
  simp only [itv_Test.j1]
  by_cases hn : p.1 > p.2 ∨ q.1 > q.2
  · rw [decide_eq_true hn, if_pos hn]; rfl
  rw [decide_eq_false hn, if_neg hn, if_neg (by decide)]
  have sp : S p := by rcases hp with ⟨_, e⟩ | ⟨_, e⟩; (exfalso; rw [e] at hn; exact hn (Or.inl (by decide))); exact e
  have sq : S q := by rcases hq with ⟨_, e⟩ | ⟨_, e⟩; (exfalso; rw [e] at hn; exact hn (Or.inr (by decide))); exact e
  unfold tt
  by_cases h14 : op = 14
  · rw [if_pos h14, if_pos h14, meetS1 (k + 4) sp sq, Option.bind_some, j5]
  rw [if_neg h14, if_neg h14]
  by_cases h15 : op = 15
  · rw [if_pos h15, if_pos h15, without1 (k + 4) sp sq, Option.bind_some, without1 (k + 4) sq sp, Option.bind_some, j5]
  rw [if_neg h15, if_neg h15]
  by_cases h18 : op = 18
  · rw [if_pos h18, if_pos h18]
    simp only [itv_Test.j2]
    rw [if_pos trivial, j3 k true (by omega) (by omega) sq sp]; rfl
  rw [if_neg h18, if_neg h18]
  by_cases h19 : op = 19
  · rw [if_pos h19, if_pos h19]
    simp only [itv_Test.j2]
    rw [if_neg (by decide), j3 k true (by omega) (by omega) sq sp]; rfl
  rw [if_neg h19, if_neg h19]
  simp only [itv_Test.j2]
  by_cases h16 : op = 16
  · rw [if_pos h16, if_pos h16, j3 k false (by omega) (by omega) sp sq]; rfl
  · rw [if_neg h16, if_neg h16, j3 k false (by omega) (by omega) sp sq]; rfl
/-- are there numbers of both for which the comparison holds -/
def pr (op : Int) (p q : Int × Int) : Bool :=
  if op = 14 then !decide ((mt p q).1 > (mt p q).2) else if op = 15 then !(decide (p.1 = p.2 ∧ q.1 = q.2 ∧ p.1 = q.1)) else
  if op = 18 then decide (q.1 < p.2) else if op = 19 then decide (q.1 ≤ p.2) else
  if op = 16 then decide (p.1 < q.2) else decide (p.1 ≤ q.2)
/-- one side of an interval cut off leaves nothing just if .. -/
theorem low_none {p q : Int × Int} {g : Int} (hg : 0 ≤ g) (hg1 : g ≤ 1) (h : S p) (h2 : S q) : (low g p q).1 > (low g p q).2 ↔ ¬ p.1 + g ≤ q.2 := by
  unfold S at h h2
  unfold low
  by_cases e : q.2 < 4611686018427387904
  · rw [if_pos e, C_none]; omega
  · rw [if_neg e]; omega
theorem high_none {p q : Int × Int} {g : Int} (hg : 0 ≤ g) (hg1 : g ≤ 1) (h : S p) (h2 : S q) : (high g p q).1 > (high g p q).2 ↔ ¬ q.1 + g ≤ p.2 := by
  unfold S at h h2
  unfold high
  by_cases e : q.1 > -4611686018427387904
  · rw [if_pos e, C_none]; omega
  · rw [if_neg e]; omega
theorem wo_none {p q : Int × Int} (h : S p) (_ : S q) : (wo p q).1 > (wo p q).2 ↔ (p.1 = p.2 ∧ q.1 = q.2 ∧ p.1 = q.1) := by
  unfold S at h
  unfold wo
  by_cases e : q.1 = q.2
  · rw [if_pos e]
    by_cases e1 : q.1 = p.1
    · rw [if_pos e1, C_none]; omega
    · rw [if_neg e1]
      by_cases e2 : q.1 = p.2
      · rw [if_pos e2, C_none]; omega
      · rw [if_neg e2]; omega
  · rw [if_neg e]; omega
def tc (op : Int) (p q : Int × Int) : (Int × Int) × (Int × Int) :=
  if op = 14 then (mt p q, mt p q) else if op = 15 then (wo p q, wo q p) else
  if op = 18 then (high 1 p q, low 1 q p) else if op = 19 then (high 0 p q, low 0 q p) else
  if op = 16 then (low 1 p q, high 1 q p) else (low 0 p q, high 0 q p)
theorem tt_tc (op : Int) (p q : Int × Int) : tt op p q = fin (tc op p q).1 (tc op p q).2 := by
  unfold tt tc
  (repeat' split) <;> rfl
/-- both sides leave something just if there is a pair -/
theorem tc_none (op : Int) {p q : Int × Int} (h : S p) (h2 : S q) : ((tc op p q).1.1 > (tc op p q).1.2 ↔ pr op p q = false) ∧ ((tc op p q).2.1 > (tc op p q).2.2 ↔ pr op p q = false) := by
  unfold tc pr
  by_cases e1 : op = 14
  · simp only [if_pos e1, Bool.not_eq_false', decide_eq_true_eq, and_self]
  rw [if_neg e1, if_neg e1]
  by_cases e2 : op = 15
  · simp only [if_pos e2, Bool.not_eq_false', decide_eq_true_eq]
    rw [wo_none h h2, wo_none h2 h]
    constructor <;> omega
  rw [if_neg e2, if_neg e2]
  by_cases e3 : op = 18
  · simp only [if_pos e3, decide_eq_false_iff_not]
    rw [high_none (by omega) (by omega) h h2, low_none (by omega) (by omega) h2 h]
    constructor <;> omega
  rw [if_neg e3, if_neg e3]
  by_cases e4 : op = 19
  · simp only [if_pos e4, decide_eq_false_iff_not]
    rw [high_none (by omega) (by omega) h h2, low_none (by omega) (by omega) h2 h]
    constructor <;> omega
  rw [if_neg e4, if_neg e4]
  by_cases e5 : op = 16
  · simp only [if_pos e5, decide_eq_false_iff_not]
    rw [low_none (by omega) (by omega) h h2, high_none (by omega) (by omega) h2 h]
    constructor <;> omega
  rw [if_neg e5, if_neg e5]
  simp only [decide_eq_false_iff_not]
  rw [low_none (by omega) (by omega) h h2, high_none (by omega) (by omega) h2 h]
  constructor <;> omega
theorem tt_pr (op : Int) {p q : Int × Int} (h : S p) (h2 : S q) : tt op p q = if pr op p q = true then T4 (tc op p q).1 (tc op p q).2 else (1, 0, 1, 0) := by
  rw [tt_tc]
  obtain ⟨h3, h4⟩ := tc_none op h h2
  unfold fin T4
  cases e : pr op p q
  · rw [if_pos (Or.inl (h3.mpr e)), if_neg (by decide)]
  · rw [e] at h3 h4
    rw [if_neg (by intro hh; rcases hh with hh | hh; exact absurd (h3.mp hh) (by decide); exact absurd (h4.mp hh) (by decide)), if_pos rfl]
theorem S_of {a b : Int} (h : ¬ (C a b).1 > (C a b).2) : S (C a b) := by
  rcases C_cases a b with ⟨_, e⟩ | ⟨_, e⟩
  · exact absurd (by rw [e]; decide) h
  · exact e
theorem TT_none (op : Int) (ho : 14 ≤ op ∧ op ≤ 19) {p q : Int × Int} (h : S p) (h2 : S q) : decide ((TT op p q).1 > (TT op p q).2.1) = !pr op p q := by
  have h3 := h
  have h4 := h2
  unfold S at h3 h4
  unfold TT
  rw [if_neg (by omega), if_neg (by omega), tt_pr op h h2]
  obtain ⟨h5, h6⟩ := tc_none op h h2
  cases e : pr op p q
  · rfl
  · rw [if_pos rfl]
    apply decide_eq_false
    intro hh
    rw [h5.mp hh] at e
    exact absurd e (by decide)
/-- the comparison that holds where this one does not -/
def oth (op : Int) : Int := if op = 14 then 15 else if op = 15 then 14 else if op = 16 then 19 else if op = 17 then 18 else if op = 18 then 17 else 16
theorem oth_rd (op : Int) (h : 14 ≤ op ∧ op ≤ 19) : 0 ≤ wrap64 (op - 14) ∧ wrap64 (op - 14) < 6 ∧ rd ([15, 14, 19, 18, 17, 16] : List Int) (wrap64 (op - 14)) = oth op ∧ 14 ≤ oth op ∧ oth op ≤ 19 := by
  rw [w64 (by omega) (by omega)]
  refine ⟨by omega, by omega, ?_, ?_⟩
  · rcases (by omega : op = 14 ∨ op = 15 ∨ op = 16 ∨ op = 17 ∨ op = 18 ∨ op = 19) with h | h | h | h | h | h <;> subst h <;> rfl
  · unfold oth
    (repeat' split) <;> omega
def HH (op : Int) (p q : Int × Int) : Bool × Bool := if p.1 > p.2 ∨ q.1 > q.2 then (false, false) else if op < 14 ∨ op > 19 then (true, true) else (pr op p q, pr (oth op) p q)
theorem holds1 (k : Nat) (op a b c d : Int) : itv_Holds.f (k + 9) op a b c d = some (HH op (C a b) (C c d)) := by
  unfold itv_Holds.f HH
  rw [sound1, sound1, Option.bind_some, Option.bind_some]
  have hp := @S_of a b
  have hq := @S_of c d
  generalize C a b = p at *
  generalize C c d = q at *
  have jt : itv_Holds.j0 (k + 9) op true p.1 p.2 q.1 q.2 = some (false, false) := rfl
  unfold itv_None.f
  rw [Option.bind_some, Option.bind_some]
  by_cases h1 : p.1 > p.2
  · rw [decide_eq_true h1, if_pos rfl, jt, if_pos (Or.inl h1)]
  rw [decide_eq_false h1, if_neg (by decide)]
  by_cases h2 : q.1 > q.2
  · rw [decide_eq_true h2, jt, if_pos (Or.inr h2)]
  rw [decide_eq_false h2, if_neg (by omega)]
  have sp := hp h1
  have sq := hq h2
  simp only [itv_Holds.j0, Bool.false_eq_true, if_false]
  have e : (if op < 14 then itv_Holds.j1 (k + 8) op true p.1 p.2 q.1 q.2 else itv_Holds.j1 (k + 8) op (decide (op > 19)) p.1 p.2 q.1 q.2) = itv_Holds.j1 (k + 8) op (decide (op < 14 ∨ op > 19)) p.1 p.2 q.1 q.2 := by
    by_cases h : op < 14
    · rw [if_pos h, decide_eq_true (Or.inl h)]
    · rw [if_neg h]
      by_cases h2 : op > 19
      · rw [decide_eq_true h2, decide_eq_true (Or.inr h2)]
      · rw [decide_eq_false h2, decide_eq_false (by omega)]
  rw [e]
  by_cases h : op < 14 ∨ op > 19
  · rw [decide_eq_true h, if_pos h]; rfl
  rw [decide_eq_false h, if_neg h]
  simp only [itv_Holds.j1, Bool.false_eq_true, if_false]
  have ho : 14 ≤ op ∧ op ≤ 19 := by omega
  obtain ⟨g1, g2, g3, g4⟩ := oth_rd op ho
  rw [g3, test1, C_S sp, C_S sq, Option.bind_some, if_pos g1, if_pos g2, test1, C_S sp, C_S sq, Option.bind_some]
  unfold itv_None.f
  rw [Option.bind_some, Option.bind_some, TT_none op ho sp sq, TT_none _ g4 sp sq, Bool.not_not, Bool.not_not]
/-- an interval as all functions give it: the empty one, or one with numbers -/
def W (p : Int × Int) : Prop := (p.1 = 1 ∧ p.2 = 0) ∨ S p
theorem W_C (a b : Int) : W (C a b) := by
  rcases C_cases a b with ⟨_, e⟩ | ⟨_, e⟩
  · left; rw [e]; exact ⟨rfl, rfl⟩
  · exact Or.inr e
theorem C_W {p : Int × Int} (h : W p) : C p.1 p.2 = p := by
  rcases h with ⟨h1, h2⟩ | h
  · apply Prod.ext
    · rw [h1, h2]; rfl
    · rw [h1, h2]; rfl
  · exact C_S h
def leq (p q : Int × Int) : Bool := decide (p.1 > p.2 ∨ (q.1 ≤ p.1 ∧ p.2 ≤ q.2 ∧ q.1 ≤ q.2))
def jn (p q : Int × Int) : Int × Int := if p.1 > p.2 then q else if q.1 > q.2 then p else (min p.1 q.1, max p.2 q.2)
def me (p q : Int × Int) : Int × Int := if p.1 > p.2 ∨ q.1 > q.2 ∨ max p.1 q.1 > min p.2 q.2 then (1, 0) else (max p.1 q.1, min p.2 q.2)
theorem leq_iff {p q : Int × Int} : leq p q = true ↔ (p.1 > p.2 ∨ (q.1 ≤ p.1 ∧ p.2 ≤ q.2 ∧ q.1 ≤ q.2)) := by unfold leq; exact decide_eq_true_iff
theorem W_jn {p q : Int × Int} (hp : W p) (hq : W q) : W (jn p q) := by
  unfold jn
  by_cases h1 : p.1 > p.2
  · rw [if_pos h1]; exact hq
  · rw [if_neg h1]
    by_cases h2 : q.1 > q.2
    · rw [if_pos h2]; exact hp
    · rw [if_neg h2]
      unfold W S at *
      right
      dsimp only
      omega
theorem W_me {p q : Int × Int} (hp : W p) (hq : W q) : W (me p q) := by
  unfold me
  by_cases h1 : p.1 > p.2 ∨ q.1 > q.2 ∨ max p.1 q.1 > min p.2 q.2
  · rw [if_pos h1]; exact Or.inl ⟨rfl, rfl⟩
  · rw [if_neg h1]
    unfold W S at *
    right
    dsimp only
    omega
theorem leqf (a b c d : Int) : itv_Leq.f a b c d = some (leq (C a b) (C c d)) := by
  unfold itv_Leq.f itv_None.f leq
  rw [sound1, sound1, Option.bind_some, Option.bind_some, Option.bind_some]
  generalize C a b = p
  generalize C c d = q
  by_cases h : p.1 > p.2
  · rw [decide_eq_true h, if_pos rfl, decide_eq_true (Or.inl h)]
  · rw [decide_eq_false h, if_neg (by decide)]
    by_cases h1 : q.1 ≤ p.1
    · rw [if_pos h1]
      by_cases h2 : p.2 ≤ q.2
      · rw [if_pos h2, Option.bind_some]
        congr 1
        rw [← decide_not]
        exact decide_eq_decide.mpr (by omega)
      · rw [if_neg h2, decide_eq_false (by omega)]
    · rw [if_neg h1, decide_eq_false (by omega)]
theorem joinf (a b c d : Int) : itv_Join.f a b c d = some (jn (C a b) (C c d)) := by
  unfold itv_Join.f itv_None.f jn
  rw [sound1, sound1, Option.bind_some, Option.bind_some, Option.bind_some, Option.bind_some, mnm, mxm]
  generalize C a b = p
  generalize C c d = q
  by_cases h : p.1 > p.2
  · rw [decide_eq_true h, if_pos rfl, if_pos h]
  · rw [decide_eq_false h, if_neg (by decide), if_neg h]
    by_cases h2 : q.1 > q.2
    · rw [decide_eq_true h2, if_pos rfl, if_pos h2]
    · rw [decide_eq_false h2, if_neg (by decide), if_neg h2]
theorem meetf (k : Nat) (a b c d : Int) : itv_Meet.f (k + 1) a b c d = some (me (C a b) (C c d)) := by
  rw [meet1]
  congr 1
  have hp := W_C a b
  have hq := W_C c d
  generalize C a b = p at *
  generalize C c d = q at *
  unfold me mt
  by_cases h : p.1 > p.2 ∨ q.1 > q.2
  · rw [if_pos h, if_pos (by omega)]
  · rw [if_neg h]
    unfold W S at hp hq
    by_cases h2 : max p.1 q.1 > min p.2 q.2
    · rw [if_pos (by omega), C, if_pos h2]
    · rw [if_neg (by omega)]
      have : S (max p.1 q.1, min p.2 q.2) := by unfold S; dsimp only; omega
      exact C_S this
theorem leq_jn1 {p q : Int × Int} : leq p (jn p q) = true := by
  rw [leq_iff]; unfold jn
  (repeat' split) <;> (try dsimp only) <;> omega
theorem leq_jn2 {p q : Int × Int} : leq q (jn p q) = true := by
  rw [leq_iff]; unfold jn
  (repeat' split) <;> (try dsimp only) <;> omega
theorem leq_me1 {p q : Int × Int} : leq (me p q) p = true := by
  rw [leq_iff]; unfold me
  (repeat' split) <;> (try dsimp only) <;> omega
theorem leq_me2 {p q : Int × Int} : leq (me p q) q = true := by
  rw [leq_iff]; unfold me
  (repeat' split) <;> (try dsimp only) <;> omega
theorem jn_leq {p q r : Int × Int} (h1 : leq p r = true) (h2 : leq q r = true) : leq (jn p q) r = true := by
  rw [leq_iff] at *; unfold jn
  (repeat' split) <;> (try dsimp only) <;> omega
theorem leq_me {p q r : Int × Int} (h1 : leq r p = true) (h2 : leq r q = true) : leq r (me p q) = true := by
  rw [leq_iff] at *; unfold me
  (repeat' split) <;> (try dsimp only) <;> omega
theorem leq_trans {p q r : Int × Int} (h1 : leq p q = true) (h2 : leq q r = true) : leq p r = true := by
  rw [leq_iff] at *; omega
def fitm (a : Int) : Int := min (max a (-4611686018427387904)) 4611686018427387904
theorem fitf (a : Int) : bound_Fit.f a = some (fitm a) := by unfold bound_Fit.f fitm; rw [mnm, mxm]
theorem fitm_le (a : Int) : -4611686018427387904 ≤ fitm a ∧ fitm a ≤ 4611686018427387904 := by unfold fitm; omega
theorem fitm_id {a : Int} (h1 : -4611686018427387904 ≤ a) (h2 : a ≤ 4611686018427387904) : fitm a = a := by unfold fitm; omega
/-- a bound's quotient by a bound -/
def dv (a b : Int) : Int :=
  if fitm b = 0 ∨ fitm b = 4611686018427387904 ∨ fitm b = -4611686018427387904 ∨ fitm a = 0 then 0
  else if fitm a = 4611686018427387904 ∨ fitm a = -4611686018427387904 then (if (decide (fitm a < 0) == decide (fitm b < 0)) = true then 4611686018427387904 else -4611686018427387904)
  else wrap64 (Int.tdiv (fitm a) (fitm b))
theorem kind0 {x : Int} (h1 : -4611686018427387904 < x) (h2 : x < 4611686018427387904) : bound_kind.f x = some 0 := by
  unfold bound_kind.f
  rw [if_neg (by omega), if_neg (by omega)]
theorem kind1 {x : Int} (h : x = 4611686018427387904 ∨ x = -4611686018427387904) : ∃ t, bound_kind.f x = some t ∧ t ≠ 0 := by
  unfold bound_kind.f
  rcases h with h | h
  · rw [if_pos (by omega)]; exact ⟨1, rfl, by decide⟩
  · rw [if_neg (by omega), if_pos (by omega)]; exact ⟨-1, rfl, by decide⟩
theorem dvf (k : Nat) (a b : Int) : bound_Div.f (k + 1) a b = some (dv a b) := by
  unfold bound_Div.f dv
  rw [fitf, fitf, Option.bind_some, Option.bind_some]
  obtain ⟨hx1, hx2⟩ := fitm_le a
  obtain ⟨hy1, hy2⟩ := fitm_le b
  generalize fitm a = x at *
  generalize fitm b = y at *
  have jt : bound_Div.j0 (k + 1) x y true = some 0 := rfl
  by_cases h0 : y = 0
  · rw [if_pos h0, if_pos (Or.inl h0), jt]
  rw [if_neg h0]
  by_cases h1 : y = 4611686018427387904 ∨ y = -4611686018427387904
  · obtain ⟨t, ht, hn⟩ := kind1 h1
    rw [ht, Option.bind_some, if_pos (by omega), bne_iff_ne.mpr hn, jt]
  rw [kind0 (by omega) (by omega), Option.bind_some]
  simp only [bound_Div.j0]
  rw [if_neg (by decide)]
  by_cases h2 : x = 0
  · rw [if_pos h2, if_pos (by omega)]
  rw [if_neg h2, if_neg (by omega : ¬ (y = 0 ∨ y = 4611686018427387904 ∨ y = -4611686018427387904 ∨ x = 0))]
  by_cases h3 : x = 4611686018427387904 ∨ x = -4611686018427387904
  · obtain ⟨t, ht, hn⟩ := kind1 h3
    rw [ht, Option.bind_some, if_neg hn, if_pos h3]
    by_cases h4 : (decide (x < 0) == decide (y < 0)) = true
    · rw [if_pos h4, if_pos h4]
    · rw [if_neg h4, if_neg h4]
  · rw [kind0 (by omega) (by omega), Option.bind_some, if_pos rfl, if_neg h0, if_neg h3]
def hl (a b c d : Int) : Int × Int := C (min (min a b) (min c d)) (max (max a b) (max c d))
theorem hlf (a b c d : Int) : itv_hull.f a b c d = some (hl a b c d) := by
  unfold itv_hull.f hl
  have e1 : min (min (min a b) c) d = min (min a b) (min c d) := by omega
  have e2 : max (max (max a b) c) d = max (max a b) (max c d) := by omega
  rw [of1, Option.bind_some, mnm, mnm, mnm, mxm, mxm, mxm, e1, e2]
theorem W_hl (a b c d : Int) : W (hl a b c d) := W_C _ _
/-- what lies below 0, and what lies above -/
def ng (q : Int × Int) : Int × Int := me q (-4611686018427387904, -1)
def ps (q : Int × Int) : Int × Int := me q (1, 4611686018427387904)
theorem W_N : W (-4611686018427387904, -1) := by right; unfold S; decide
theorem W_P : W (1, 4611686018427387904) := by right; unfold S; decide
theorem W_ng {q : Int × Int} (h : W q) : W (ng q) := W_me h W_N
theorem W_ps {q : Int × Int} (h : W q) : W (ps q) := W_me h W_P
theorem CN : C (-4611686018427387904) (-1) = (-4611686018427387904, -1) := rfl
theorem CP : C 1 4611686018427387904 = (1, 4611686018427387904) := rfl
theorem signsf (k : Nat) {q : Int × Int} (h : W q) : itv_signs.f (k + 1) q.1 q.2 = some ((ng q).1, (ng q).2, (ps q).1, (ps q).2) := by
  unfold itv_signs.f ng ps
  rw [of1, Option.bind_some, meetf, Option.bind_some, of1, Option.bind_some, meetf, Option.bind_some, C_two, C_two, C_W h, CN, CP]
theorem jn_E {p : Int × Int} (h : W p) : jn p (1, 0) = p := by
  unfold jn
  unfold W S at h
  apply Prod.ext <;> ((repeat' split) <;> (try dsimp only at *) <;> omega)
theorem E_jn (p : Int × Int) : jn (1, 0) p = p := by unfold jn; rw [if_pos (by decide)]
theorem C_E : C 1 0 = (1, 0) := rfl
def dq (p d : Int × Int) : Int × Int := if d.1 > d.2 then (1, 0) else hl (dv p.1 d.1) (dv p.1 d.2) (dv p.2 d.1) (dv p.2 d.2)
def DV (p q : Int × Int) : Int × Int := jn (dq p (ng q)) (dq p (ps q))
theorem W_dq (p d : Int × Int) : W (dq p d) := by
  unfold dq
  split
  · exact Or.inl ⟨rfl, rfl⟩
  · exact W_hl _ _ _ _
theorem div1f (k : Nat) (p : Int × Int) {q : Int × Int} (h : W q) : itv_Div_1.f (k + 1) p.1 p.2 q.1 q.2 = some (DV p q) := by
  unfold itv_Div_1.f itv_Empty.f DV
  rw [Option.bind_some, signsf k h, Option.bind_some]
  dsimp only
  generalize ng q = n
  generalize ps q = s
  unfold itv_None.f
  rw [Option.bind_some]
  by_cases h1 : n.1 > n.2
  · rw [decide_eq_true h1, if_pos rfl, Option.bind_some]
    have e1 : dq p n = (1, 0) := by unfold dq; rw [if_pos h1]
    rw [e1, E_jn]
    by_cases h2 : s.1 > s.2
    · rw [decide_eq_true h2, if_pos rfl]
      unfold dq; rw [if_pos h2]
    · rw [decide_eq_false h2, if_neg (by decide), dvf, Option.bind_some, dvf, Option.bind_some, dvf, Option.bind_some, dvf, Option.bind_some, hlf, Option.bind_some, joinf, Option.bind_some, C_E, E_jn, C_W (W_hl _ _ _ _)]
      unfold dq; rw [if_neg h2]
  · rw [decide_eq_false h1, if_neg (by decide), dvf, Option.bind_some, dvf, Option.bind_some, dvf, Option.bind_some, dvf, Option.bind_some, hlf, Option.bind_some, joinf, Option.bind_some, C_E, E_jn, C_W (W_hl _ _ _ _), Option.bind_some]
    have e1 : dq p n = hl (dv p.1 n.1) (dv p.1 n.2) (dv p.2 n.1) (dv p.2 n.2) := by unfold dq; rw [if_neg h1]
    rw [e1]
    by_cases h2 : s.1 > s.2
    · rw [decide_eq_true h2, if_pos rfl]
      have e2 : dq p s = (1, 0) := by unfold dq; rw [if_pos h2]
      rw [e2, jn_E (W_hl _ _ _ _)]
    · rw [decide_eq_false h2, if_neg (by decide), dvf, Option.bind_some, dvf, Option.bind_some, dvf, Option.bind_some, dvf, Option.bind_some, hlf, Option.bind_some, joinf, Option.bind_some, C_W (W_hl _ _ _ _), C_W (W_hl _ _ _ _)]
      unfold dq; rw [if_neg h2]
def DD (p q : Int × Int) : Int × Int := if p.1 > p.2 ∨ q.1 > q.2 then (1, 0) else DV p q
theorem divf (k : Nat) (a b c d : Int) : itv_Div.f (k + 2) a b c d = some (DD (C a b) (C c d)) := by
  unfold itv_Div.f itv_both_itv_Div_1.f DD
  rw [sound1, sound1, Option.bind_some, Option.bind_some]
  have hq := W_C c d
  generalize C a b = p
  generalize C c d = q at *
  unfold itv_None.f
  rw [Option.bind_some, Option.bind_some]
  have jt : itv_both_itv_Div_1.j0 (k + 2) true p.1 p.2 q.1 q.2 = some (1, 0) := rfl
  by_cases h1 : p.1 > p.2
  · rw [decide_eq_true h1, if_pos rfl, jt, if_pos (Or.inl h1), Option.bind_some]
  rw [decide_eq_false h1, if_neg (by decide)]
  by_cases h2 : q.1 > q.2
  · rw [decide_eq_true h2, jt, if_pos (Or.inr h2), Option.bind_some]
  rw [decide_eq_false h2, if_neg (by omega : ¬ (p.1 > p.2 ∨ q.1 > q.2))]
  simp only [itv_both_itv_Div_1.j0]
  rw [if_neg (by decide), div1f k p hq, Option.bind_some, Option.bind_some]
/-- the sizes -/
def ab (p : Int × Int) : Int × Int := if p.1 > p.2 ∨ p.1 ≥ 0 then p else if p.2 ≤ 0 then C (-p.2) (-p.1) else C 0 (max (-p.1) p.2)
theorem bnegf {a : Int} (h1 : -4611686018427387904 ≤ a) (h2 : a ≤ 4611686018427387904) : bound_Neg.f a = some (-a) := by
  unfold bound_Neg.f
  rw [fitf, Option.bind_some, fitm_id h1 h2, w64 (by omega) (by omega)]
theorem W_le {p : Int × Int} (h : W p) : -4611686018427387904 ≤ p.1 ∧ p.1 ≤ 4611686018427387904 ∧ -4611686018427387904 ≤ p.2 ∧ p.2 ≤ 4611686018427387904 := by unfold W S at h; omega
theorem negf {p : Int × Int} (h : W p) (hn : ¬ p.1 > p.2) : itv_Neg.f p.1 p.2 = some (C (-p.2) (-p.1)) := by
  obtain ⟨h1, h2, h3, h4⟩ := W_le h
  unfold itv_Neg.f itv_None.f
  rw [sound1, Option.bind_some, Option.bind_some, C_W h, decide_eq_false hn, if_neg (by decide), bnegf h3 h4, Option.bind_some, bnegf h1 h2, Option.bind_some, of1, Option.bind_some]
theorem absf (k : Nat) {p : Int × Int} (h : W p) : itv_Abs.f (k + 1) p.1 p.2 = some (ab p) := by
  obtain ⟨h1, h2, h3, h4⟩ := W_le h
  unfold itv_Abs.f itv_None.f ab
  rw [sound1, Option.bind_some, Option.bind_some, C_W h]
  have jt : itv_Abs.j0 (k + 1) true p.1 p.2 = some p := rfl
  by_cases g1 : p.1 > p.2
  · rw [decide_eq_true g1, if_pos rfl, jt, if_pos (Or.inl g1)]
  rw [decide_eq_false g1, if_neg (by decide)]
  by_cases g2 : p.1 ≥ 0
  · rw [decide_eq_true g2, jt, if_pos (Or.inr g2)]
  rw [decide_eq_false g2, if_neg (by omega : ¬ (p.1 > p.2 ∨ p.1 ≥ 0))]
  simp only [itv_Abs.j0]
  rw [if_neg (by decide)]
  by_cases g3 : p.2 ≤ 0
  · rw [if_pos g3, if_pos g3, negf h g1, Option.bind_some]
  · rw [if_neg g3, if_neg g3, bnegf h1 h2, Option.bind_some, of1, Option.bind_some, mxm]
def szn (q : Int × Int) : Int := if (ng q).1 > (ng q).2 then (ps q).1 else if (ps q).1 > (ps q).2 then -(ng q).2 else min (-(ng q).2) (ps q).1
def szm (q : Int × Int) : Int := if (ng q).1 > (ng q).2 then (ps q).2 else if (ps q).1 > (ps q).2 then -(ng q).1 else max (-(ng q).1) (ps q).2
theorem ng_le {q : Int × Int} (h : ¬ (ng q).1 > (ng q).2) : (ng q).2 ≤ -1 := by
  unfold ng me at *
  dsimp only at *
  split at h
  · exact absurd (by decide) h
  · rename_i g; rw [if_neg g]; dsimp only; omega
theorem ps_ge {q : Int × Int} (h : ¬ (ps q).1 > (ps q).2) : (ps q).1 ≥ 1 := by
  unfold ps me at *
  dsimp only at *
  split at h
  · exact absurd (by decide) h
  · rename_i g; rw [if_neg g]; dsimp only; omega
theorem ab_ng {q : Int × Int} (hq : W q) (h : ¬ (ng q).1 > (ng q).2) : ab (ng q) = (-(ng q).2, -(ng q).1) := by
  have h1 := ng_le h
  have h2 := W_ng hq
  unfold ab
  rw [if_neg (by omega), if_pos (by omega)]
  have : S (-(ng q).2, -(ng q).1) := by unfold W S at *; dsimp only; omega
  exact C_S this
theorem ab_ps {q : Int × Int} (h : ¬ (ps q).1 > (ps q).2) : ab (ps q) = ps q := by
  have h1 := ps_ge h
  unfold ab
  rw [if_pos (by omega)]
theorem sizesf (k : Nat) {q : Int × Int} (h : W q) : itv_sizes.f (k + 1) q.1 q.2 = some (if (ng q).1 > (ng q).2 ∧ (ps q).1 > (ps q).2 then (4611686018427387904, 0, false) else (szn q, szm q, true)) := by
  have hn := W_ng h
  have hs := W_ps h
  obtain ⟨n1, n2, n3, n4⟩ := W_le hn
  obtain ⟨s1, s2, s3, s4⟩ := W_le hs
  unfold itv_sizes.f itv_None.f szn szm
  rw [signsf k h, Option.bind_some, Option.bind_some]
  dsimp only
  by_cases h1 : (ng q).1 > (ng q).2
  · rw [decide_eq_true h1, if_pos rfl, Option.bind_some, if_pos h1, if_pos h1]
    by_cases h2 : (ps q).1 > (ps q).2
    · rw [decide_eq_true h2, if_pos rfl, if_pos ⟨h1, h2⟩]
    · have := ps_ge h2
      have hb : ¬ ((ng q).1 > (ng q).2 ∧ (ps q).1 > (ps q).2) := fun x => h2 x.2
      rw [decide_eq_false h2, if_neg (by decide), absf k hs, Option.bind_some, ab_ps h2, if_neg hb, mnm, mxm]
      congr 2
      · omega
      · congr 1; omega
  · have := ng_le h1
    have hb : ¬ ((ng q).1 > (ng q).2 ∧ (ps q).1 > (ps q).2) := fun x => h1 x.1
    rw [decide_eq_false h1, if_neg (by decide), absf k hn, Option.bind_some, ab_ng h h1, Option.bind_some, if_neg hb, if_neg h1, if_neg h1]
    dsimp only
    by_cases h2 : (ps q).1 > (ps q).2
    · rw [decide_eq_true h2, if_pos rfl, if_pos h2, if_pos h2, mnm, mxm]
      congr 2
      · omega
      · congr 1; omega
    · have := ps_ge h2
      rw [decide_eq_false h2, if_neg (by decide), absf k hs, Option.bind_some, ab_ps h2, if_neg h2, if_neg h2, mnm, mnm, mxm, mxm]
      congr 2
      · omega
      · congr 1; omega
/-- does an interval have one size alone, on one side of 0; and its number -/
def onz (q : Int × Int) : Bool := decide (((ng q).1 > (ng q).2 ∨ (ps q).1 > (ps q).2) ∧ szn q = szm q)
def yy (q : Int × Int) : Int := if (ps q).1 > (ps q).2 then -(szn q) else szn q
theorem singlef (k : Nat) {q : Int × Int} (h : W q) (hb : ¬ ((ng q).1 > (ng q).2 ∧ (ps q).1 > (ps q).2)) : itv_single.f (k + 1) q.1 q.2 = some (if onz q = true then (yy q, true) else (0, false)) := by
  unfold itv_single.f itv_None.f onz yy szn szm
  rw [signsf k h, Option.bind_some, Option.bind_some]
  dsimp only
  by_cases h2 : (ps q).1 > (ps q).2
  · have h1 : ¬ (ng q).1 > (ng q).2 := fun x => hb ⟨x, h2⟩
    rw [decide_eq_true h2, if_pos rfl, if_neg h1, if_neg h1, if_pos h2, if_pos h2, if_pos h2]
    by_cases e : (ng q).1 = (ng q).2
    · rw [if_pos e, if_pos (decide_eq_true ⟨Or.inr h2, by omega⟩)]
      congr 2; omega
    · rw [if_neg e, Option.bind_some, decide_eq_false h1, if_neg (by decide), if_neg (by intro x; exact e (by have := (of_decide_eq_true x).2; omega))]
  · rw [decide_eq_false h2, if_neg (by decide), Option.bind_some, if_neg h2]
    by_cases h1 : (ng q).1 > (ng q).2
    · rw [decide_eq_true h1, if_pos rfl, if_pos h1, if_pos h1]
      by_cases e : (ps q).1 = (ps q).2
      · rw [if_pos e, if_pos (decide_eq_true ⟨Or.inl h1, e⟩)]
        try rw [if_neg h2]
      · rw [if_neg e, if_neg (by intro x; exact e (of_decide_eq_true x).2)]
    · rw [decide_eq_false h1, if_neg (by decide), if_neg (by intro x; have := (of_decide_eq_true x).1; omega)]
def top (q : Int × Int) : Int := if szm q < 4611686018427387904 then szm q - 1 else 4611686018427387904
/-- the remainders -/
def MD (p q : Int × Int) : Int × Int :=
  if (ng q).1 > (ng q).2 ∧ (ps q).1 > (ps q).2 then (1, 0)
  else if p.1 > -(szn q) ∧ p.2 < szn q then p
  else if onz q = true ∧ p.1 > -4611686018427387904 ∧ p.2 < 4611686018427387904 ∧ Int.tdiv p.1 (szn q) = Int.tdiv p.2 (szn q) then C (Int.tmod p.1 (szn q)) (Int.tmod p.2 (szn q))
  else C (if p.1 < 0 then max p.1 (-(top q)) else 0) (if p.2 > 0 then min p.2 (top q) else 0)
theorem tdw {x : Int} (h1 : -4611686018427387904 ≤ x) (h2 : x ≤ 4611686018427387904) (y : Int) : wrap64 (Int.tdiv x y) = Int.tdiv x y := by
  have h : (Int.tdiv x y).natAbs ≤ x.natAbs := by rw [Int.natAbs_tdiv]; exact Nat.div_le_self _ _
  exact w64 (by omega) (by omega)
theorem szn_pos {q : Int × Int} (hq : W q) (hb : ¬ ((ng q).1 > (ng q).2 ∧ (ps q).1 > (ps q).2)) : 1 ≤ szn q ∧ szn q ≤ 4611686018427387904 ∧ 1 ≤ szm q ∧ szm q ≤ 4611686018427387904 := by
  obtain ⟨n1, n2, n3, n4⟩ := W_le (W_ng hq)
  obtain ⟨s1, s2, s3, s4⟩ := W_le (W_ps hq)
  unfold szn szm
  by_cases h1 : (ng q).1 > (ng q).2
  · have h2 : ¬ (ps q).1 > (ps q).2 := fun x => hb ⟨h1, x⟩
    have := ps_ge h2
    rw [if_pos h1, if_pos h1]; omega
  · have := ng_le h1
    rw [if_neg h1, if_neg h1]
    by_cases h2 : (ps q).1 > (ps q).2
    · rw [if_pos h2, if_pos h2]; omega
    · have := ps_ge h2
      rw [if_neg h2, if_neg h2]; omega
theorem ab_lt {p : Int × Int} (hp : S p) {n : Int} (hn : 1 ≤ n) : (ab p).2 < n ↔ (p.1 > -n ∧ p.2 < n) := by
  unfold S at hp
  unfold ab
  by_cases h1 : p.1 ≥ 0
  · rw [if_pos (by omega)]; omega
  · rw [if_neg (by omega)]
    by_cases h2 : p.2 ≤ 0
    · rw [if_pos h2]
      have : C (-p.2) (-p.1) = (-p.2, -p.1) := C_S (p := (-p.2, -p.1)) (by unfold S; dsimp only; omega)
      rw [this]; dsimp only; omega
    · rw [if_neg h2]
      have : C 0 (max (-p.1) p.2) = (0, max (-p.1) p.2) := C_S (p := (0, max (-p.1) p.2)) (by unfold S; dsimp only; omega)
      rw [this]; dsimp only; omega
theorem S_W {p : Int × Int} (h : W p) (hn : ¬ p.1 > p.2) : S p := by
  rcases h with ⟨h1, h2⟩ | h
  · exfalso; omega
  · exact h
theorem modj1 (k : Nat) (p q : Int × Int) (ht : 0 ≤ top q ∧ top q ≤ 4611686018427387904) : itv_Mod_1.j1 (k + 1) (top q) p.1 p.2 = some (C (if p.1 < 0 then max p.1 (-(top q)) else 0) (if p.2 > 0 then min p.2 (top q) else 0)) := by
  simp only [itv_Mod_1.j1]
  rw [w64 (by omega) (by omega), mxm, mnm, of1, of1, of1, of1]
  by_cases h1 : p.1 < 0
  · rw [if_pos h1, if_pos h1]
    by_cases h2 : p.2 > 0
    · rw [if_pos h2, if_pos h2, Option.bind_some]
    · rw [if_neg h2, if_neg h2, Option.bind_some]
  · rw [if_neg h1, if_neg h1]
    by_cases h2 : p.2 > 0
    · rw [if_pos h2, if_pos h2, Option.bind_some]
    · rw [if_neg h2, if_neg h2, Option.bind_some]
theorem mod1f (k : Nat) {p q : Int × Int} (hp : S p) (hq : W q) : itv_Mod_1.f (k + 2) p.1 p.2 q.1 q.2 = some (MD p q) := by
  unfold itv_Mod_1.f MD itv_Empty.f
  rw [sizesf (k + 1) hq, Option.bind_some]
  by_cases hb : (ng q).1 > (ng q).2 ∧ (ps q).1 > (ps q).2
  · rw [if_pos hb, if_pos hb]
    rfl
  rw [if_neg hb, if_neg hb]
  obtain ⟨z1, z2, z3, z4⟩ := szn_pos hq hb
  have hp' := hp
  unfold S at hp'
  dsimp only
  rw [if_pos rfl, absf (k + 1) (Or.inr hp), Option.bind_some]
  by_cases h1 : (ab p).2 < szn q
  · rw [if_pos h1, if_pos ((ab_lt hp z1).mp h1)]
  rw [if_neg h1, if_neg (fun x => h1 ((ab_lt hp z1).mpr x)), singlef (k + 1) hq hb, Option.bind_some]
  have ht : (if szm q < 4611686018427387904 then itv_Mod_1.j1 (k + 1) (wrap64 (szm q - 1)) p.1 p.2 else itv_Mod_1.j1 (k + 1) 4611686018427387904 p.1 p.2) = itv_Mod_1.j1 (k + 1) (top q) p.1 p.2 := by
    unfold top
    by_cases g : szm q < 4611686018427387904
    · rw [if_pos g, if_pos g, w64 (by omega) (by omega)]
    · rw [if_neg g, if_neg g]
  have hf : ∀ y, itv_Mod_1.j0 (k + 2) (szm q) y false p.1 p.2 = some (C (if p.1 < 0 then max p.1 (-(top q)) else 0) (if p.2 > 0 then min p.2 (top q) else 0)) := by
    intro y
    simp only [itv_Mod_1.j0]
    rw [if_neg (by decide), ht, modj1 k p q (by unfold top; split <;> omega)]
  by_cases h2 : onz q = true
  · rw [if_pos h2]
    dsimp only
    rw [if_pos rfl]
    by_cases h3 : p.1 > -4611686018427387904
    · rw [if_pos h3]
      by_cases h4 : p.2 < 4611686018427387904
      · rw [if_pos h4]
        have hy : yy q ≠ 0 := by unfold yy; split <;> omega
        rw [if_neg hy, tdw (by omega) (by omega), tdw (by omega) (by omega)]
        have e1 : (Int.tdiv p.1 (yy q) = Int.tdiv p.2 (yy q)) ↔ (Int.tdiv p.1 (szn q) = Int.tdiv p.2 (szn q)) := by
          unfold yy
          split
          · rw [Int.tdiv_neg, Int.tdiv_neg]; omega
          · exact Iff.rfl
        have e2 : ∀ x, Int.tmod x (yy q) = Int.tmod x (szn q) := by
          intro x
          unfold yy
          split
          · rw [Int.tmod_neg]
          · rfl
        by_cases h5 : Int.tdiv p.1 (szn q) = Int.tdiv p.2 (szn q)
        · rw [e1.mpr h5, beq_self_eq_true, if_pos ⟨h2, h3, h4, h5⟩]
          simp only [itv_Mod_1.j0]
          rw [if_pos trivial, if_neg hy, of1, Option.bind_some, e2, e2]
        · rw [beq_eq_false_iff_ne.mpr (fun x => h5 (e1.mp x)), hf, if_neg (show ¬ (onz q = true ∧ p.1 > -4611686018427387904 ∧ p.2 < 4611686018427387904 ∧ Int.tdiv p.1 (szn q) = Int.tdiv p.2 (szn q)) from fun x => h5 x.2.2.2)]
      · rw [if_neg h4, hf, if_neg (show ¬ (onz q = true ∧ p.1 > -4611686018427387904 ∧ p.2 < 4611686018427387904 ∧ Int.tdiv p.1 (szn q) = Int.tdiv p.2 (szn q)) from fun x => h4 x.2.2.1)]
    · rw [if_neg h3, hf, if_neg (show ¬ (onz q = true ∧ p.1 > -4611686018427387904 ∧ p.2 < 4611686018427387904 ∧ Int.tdiv p.1 (szn q) = Int.tdiv p.2 (szn q)) from fun x => h3 x.2.1)]
  · rw [if_neg h2]
    dsimp only
    rw [if_neg (by decide), hf, if_neg (show ¬ (onz q = true ∧ p.1 > -4611686018427387904 ∧ p.2 < 4611686018427387904 ∧ Int.tdiv p.1 (szn q) = Int.tdiv p.2 (szn q)) from fun x => h2 x.1)]
def MM (p q : Int × Int) : Int × Int := if p.1 > p.2 ∨ q.1 > q.2 then (1, 0) else MD p q
theorem modf (k : Nat) (a b c d : Int) : itv_Mod.f (k + 3) a b c d = some (MM (C a b) (C c d)) := by
  unfold itv_Mod.f itv_both_itv_Mod_1.f MM
  rw [sound1, sound1, Option.bind_some, Option.bind_some]
  have hp := W_C a b
  have hq := W_C c d
  generalize C a b = p at *
  generalize C c d = q at *
  unfold itv_None.f
  rw [Option.bind_some, Option.bind_some]
  have jt : itv_both_itv_Mod_1.j0 (k + 3) true p.1 p.2 q.1 q.2 = some (1, 0) := rfl
  by_cases h1 : p.1 > p.2
  · rw [decide_eq_true h1, if_pos rfl, jt, if_pos (Or.inl h1), Option.bind_some]
  rw [decide_eq_false h1, if_neg (by decide)]
  by_cases h2 : q.1 > q.2
  · rw [decide_eq_true h2, jt, if_pos (Or.inr h2), Option.bind_some]
  rw [decide_eq_false h2, if_neg (by omega : ¬ (p.1 > p.2 ∨ q.1 > q.2))]
  simp only [itv_both_itv_Mod_1.j0]
  have sp := S_W hp h1
  rw [if_neg (by decide), mod1f k sp hq, Option.bind_some, Option.bind_some]
def upv (a b : Int) : Int := if fitm a = 4611686018427387904 ∨ fitm b = 4611686018427387904 then 4611686018427387904 else min (max (fitm a + fitm b) (-4611686018427387903)) 4611686018427387904
theorem upf (a b : Int) : bound_Up.f a b = some (upv a b) := by
  unfold bound_Up.f upv
  rw [fitf, fitf, Option.bind_some, Option.bind_some]
  obtain ⟨h1, h2⟩ := fitm_le a
  obtain ⟨h3, h4⟩ := fitm_le b
  by_cases g : fitm a = 4611686018427387904
  · rw [if_pos g, if_pos (Or.inl g)]
  · rw [if_neg g]
    by_cases g2 : fitm b = 4611686018427387904
    · rw [if_pos g2, if_pos (Or.inr g2)]
    · rw [if_neg g2, if_neg (by omega), w64 (by omega) (by omega), mnm, mxm]
def dnv (a b : Int) : Int := -(upv (-(fitm a)) (-(fitm b)))
theorem upv_le (a b : Int) : -4611686018427387903 ≤ upv a b ∧ upv a b ≤ 4611686018427387904 := by unfold upv; split <;> omega
theorem dnf (a b : Int) : bound_Down.f a b = some (dnv a b) := by
  unfold bound_Down.f dnv
  obtain ⟨h1, h2⟩ := fitm_le a
  obtain ⟨h3, h4⟩ := fitm_le b
  rw [fitf, fitf, Option.bind_some, Option.bind_some, w64 (by omega) (by omega), w64 (by omega) (by omega), upf, Option.bind_some]
  have := upv_le (-(fitm a)) (-(fitm b))
  rw [w64 (by omega) (by omega)]
/-- an operation of two intervals with numbers -/
def op2 (o : Int × Int → Int × Int → Int × Int) (p q : Int × Int) : Int × Int := if p.1 > p.2 ∨ q.1 > q.2 then (1, 0) else o p q
def ad (p q : Int × Int) : Int × Int := C (dnv p.1 q.1) (upv p.2 q.2)
theorem addf (k : Nat) (a b c d : Int) : itv_Add.f (k + 1) a b c d = some (op2 ad (C a b) (C c d)) := by
  unfold itv_Add.f itv_both_itv_Add_1.f op2
  rw [sound1, sound1, Option.bind_some, Option.bind_some]
  generalize C a b = p at *
  generalize C c d = q at *
  unfold itv_None.f
  rw [Option.bind_some, Option.bind_some]
  have jt : itv_both_itv_Add_1.j0 (k + 1) true p.1 p.2 q.1 q.2 = some (1, 0) := rfl
  by_cases h1 : p.1 > p.2
  · rw [decide_eq_true h1, if_pos rfl, jt, if_pos (Or.inl h1), Option.bind_some]
  rw [decide_eq_false h1, if_neg (by decide)]
  by_cases h2 : q.1 > q.2
  · rw [decide_eq_true h2, jt, if_pos (Or.inr h2), Option.bind_some]
  rw [decide_eq_false h2, if_neg (by omega : ¬ (p.1 > p.2 ∨ q.1 > q.2))]
  simp only [itv_both_itv_Add_1.j0]
  unfold itv_Add_1.f ad
  rw [if_neg (by decide), dnf, Option.bind_some, upf, Option.bind_some, of1, Option.bind_some, Option.bind_some, Option.bind_some]
/-- the numbers turned round -/
def ne (p : Int × Int) : Int × Int := if p.1 > p.2 then p else C (-p.2) (-p.1)
theorem negf' (a b : Int) : itv_Neg.f a b = some (ne (C a b)) := by
  have hp := W_C a b
  obtain ⟨h1, h2, h3, h4⟩ := W_le hp
  unfold itv_Neg.f itv_None.f ne
  rw [sound1, Option.bind_some, Option.bind_some]
  by_cases h : (C a b).1 > (C a b).2
  · rw [decide_eq_true h, if_pos rfl, if_pos h]
  · rw [decide_eq_false h, if_neg (by decide), if_neg h, bnegf h3 h4, Option.bind_some, bnegf h1 h2, Option.bind_some, of1, Option.bind_some]
theorem W_ne {p : Int × Int} (h : W p) : W (ne p) := by
  unfold ne
  split
  · exact h
  · exact W_C _ _
theorem subf (k : Nat) (a b c d : Int) : itv_Sub.f (k + 1) a b c d = some (op2 ad (C a b) (ne (C c d))) := by
  unfold itv_Sub.f
  rw [negf', Option.bind_some, addf, Option.bind_some, C_W (W_ne (W_C c d))]
theorem absf' (k : Nat) (a b : Int) : itv_Abs.f (k + 1) a b = some (ab (C a b)) := by
  rw [← absf k (W_C a b)]
  unfold itv_Abs.f
  rw [sound1, sound1, C_two]
/-- a bound's product -/
def mv (a b : Int) : Int := min (max (fitm a * fitm b) (-4611686018427387904)) 4611686018427387904
theorem u64_id {x : Int} (h1 : 0 ≤ x) (h2 : x < 18446744073709551616) : IntKind.u64.wrap x = x := by rw [IntKind.wrap_u64]; omega
theorem and32 {a : Int} (h0 : 0 ≤ a) (h1 : a < 9223372036854775808) : Go.bits .and .u64 a 4294967295 = a % 4294967296 := by
  have h := bits_mask .u64 63 (by decide) (fun n h₀ h₁ => by rw [IntKind.wrap_u64]; omega) 32 (by decide) a (by omega) (by omega)
  have e : ((2 : Int) ^ 32 - 1) = 4294967295 := by decide
  have e2 : ((2 : Int) ^ 32) = 4294967296 := by decide
  rw [e, e2] at h
  exact h
theorem mul64 {a b : Int} (ha : 0 ≤ a) (ha1 : a ≤ 4611686018427387904) (hb : 0 ≤ b) (hb1 : b ≤ 4611686018427387904) : bits_Mul64.f a b = some (a * b / 18446744073709551616, a * b % 18446744073709551616) := by
  unfold bits_Mul64.f
  rw [and32 ha (by omega), and32 hb (by omega)]
  have e0 : IntKind.u64.wrap (a * b) = a * b % 18446744073709551616 := by rw [IntKind.wrap_u64]
  rw [e0]
  have x1 : a = a / 4294967296 * 4294967296 + a % 4294967296 := by omega
  have y1 : b = b / 4294967296 * 4294967296 + b % 4294967296 := by omega
  have ra : 0 ≤ a / 4294967296 ∧ a / 4294967296 ≤ 1073741824 ∧ 0 ≤ a % 4294967296 ∧ a % 4294967296 ≤ 4294967295 := by omega
  have rb : 0 ≤ b / 4294967296 ∧ b / 4294967296 ≤ 1073741824 ∧ 0 ≤ b % 4294967296 ∧ b % 4294967296 ≤ 4294967295 := by omega
  have ep : a * b = (a / 4294967296 * (b / 4294967296)) * 18446744073709551616 + (a / 4294967296 * (b % 4294967296)) * 4294967296 + (a % 4294967296 * (b / 4294967296)) * 4294967296 + a % 4294967296 * (b % 4294967296) := by
    generalize a / 4294967296 = a1 at *
    generalize a % 4294967296 = a0 at *
    generalize b / 4294967296 = b1 at *
    generalize b % 4294967296 = b0 at *
    rw [x1, y1, Int.add_mul, Int.mul_add, Int.mul_add]
    have e1 : a1 * 4294967296 * (b1 * 4294967296) = a1 * b1 * 18446744073709551616 := by
      rw [Int.mul_assoc, Int.mul_left_comm 4294967296 b1, ← Int.mul_assoc, Int.mul_comm 4294967296 4294967296]
      rfl
    have e2 : a1 * 4294967296 * b0 = a1 * b0 * 4294967296 := by rw [Int.mul_assoc, Int.mul_comm 4294967296 b0, ← Int.mul_assoc]
    have e3 : a0 * (b1 * 4294967296) = a0 * b1 * 4294967296 := by rw [← Int.mul_assoc]
    rw [e1, e2, e3]
    omega
  rw [ep]
  generalize a / 4294967296 = a1 at *
  generalize a % 4294967296 = a0 at *
  generalize b / 4294967296 = b1 at *
  generalize b % 4294967296 = b0 at *
  have p1 : 0 ≤ a1 * b1 ∧ a1 * b1 ≤ 1073741824 * 1073741824 := ⟨Int.mul_nonneg ra.1 rb.1, Int.mul_le_mul ra.2.1 rb.2.1 rb.1 (by decide)⟩
  have p2 : 0 ≤ a1 * b0 ∧ a1 * b0 ≤ 1073741824 * 4294967295 := ⟨Int.mul_nonneg ra.1 rb.2.2.1, Int.mul_le_mul ra.2.1 rb.2.2.2 rb.2.2.1 (by decide)⟩
  have p3 : 0 ≤ a0 * b1 ∧ a0 * b1 ≤ 4294967295 * 1073741824 := ⟨Int.mul_nonneg ra.2.2.1 rb.1, Int.mul_le_mul ra.2.2.2 rb.2.1 rb.1 (by decide)⟩
  have p4 : 0 ≤ a0 * b0 ∧ a0 * b0 ≤ 4294967295 * 4294967295 := ⟨Int.mul_nonneg ra.2.2.1 rb.2.2.1, Int.mul_le_mul ra.2.2.2 rb.2.2.2 rb.2.2.1 (by decide)⟩
  generalize a1 * b1 = P at *
  generalize a1 * b0 = Q at *
  generalize a0 * b1 = R at *
  generalize a0 * b0 = T at *
  rw [u64_id (x := P) (by omega) (by omega), u64_id (x := Q) (by omega) (by omega), u64_id (x := T) (by omega) (by omega), u64_id (x := R) (by omega) (by omega)]
  rw [u64_id (x := Q + T / 4294967296) (by omega) (by omega)]
  have hm : Go.bits .and .u64 (Q + T / 4294967296) 4294967295 = (Q + T / 4294967296) % 4294967296 := by
    exact and32 (by omega) (by omega)
  rw [hm]
  have g1 : (Q + T / 4294967296) / 4294967296 = (Q + T / 4294967296) / 4294967296 := rfl
  rw [u64_id (x := P + (Q + T / 4294967296) / 4294967296) (by omega) (by omega), u64_id (x := (Q + T / 4294967296) % 4294967296 + R) (by omega) (by omega), u64_id (by omega) (by omega)]
  congr 2
  omega
theorem sizef {x : Int} (h1 : -4611686018427387904 ≤ x) (h2 : x ≤ 4611686018427387904) : bound_size.f x = some (if x < 0 then -x else x) := by
  unfold bound_size.f
  by_cases h : x < 0
  · rw [if_pos h, if_pos h, w64 (by omega) (by omega), u64_id (by omega) (by omega)]
  · rw [if_neg h, if_neg h, u64_id (by omega) (by omega)]
theorem mvf (k : Nat) (a b : Int) : bound_Mul.f (k + 2) a b = some (mv a b) := by
  unfold bound_Mul.f mv
  rw [fitf, fitf, Option.bind_some, Option.bind_some]
  obtain ⟨hx1, hx2⟩ := fitm_le a
  obtain ⟨hy1, hy2⟩ := fitm_le b
  generalize fitm a = x at *
  generalize fitm b = y at *
  have jt : bound_Mul.j0 (k + 2) x y true = some 0 := rfl
  by_cases h0 : x = 0
  · rw [if_pos h0, jt, h0, Int.zero_mul]; rfl
  rw [if_neg h0]
  by_cases h1 : y = 0
  · rw [h1, beq_self_eq_true, ← h1, jt, h1, Int.mul_zero]; rfl
  rw [beq_eq_false_iff_ne.mpr h1]
  simp only [bound_Mul.j0]
  rw [if_neg (by decide), sizef hx1 hx2, Option.bind_some, sizef hy1 hy2, Option.bind_some]
  have hs : ∀ s t : Int, 0 < s → s ≤ 4611686018427387904 → 0 < t → t ≤ 4611686018427387904 → ((bits_Mul64.f s t).bind fun bt581 => if bt581.1 = 0 then bound_Mul.j1 (k + 1) x y 4611686018427387904 bt581.2 (decide (bt581.2 < 4611686018427387904)) else bound_Mul.j1 (k + 1) x y 4611686018427387904 bt581.2 false) = some (if (decide (x < 0) != decide (y < 0)) = true then -(min (s * t) 4611686018427387904) else min (s * t) 4611686018427387904) := by
    intro s t hs1 hs2 ht1 ht2
    rw [mul64 (by omega) hs2 (by omega) ht2, Option.bind_some]
    dsimp only
    have hpos : 0 < s * t := Int.mul_pos hs1 ht1
    have jf : ∀ z, bound_Mul.j1 (k + 1) x y 4611686018427387904 z false = some (if (decide (x < 0) != decide (y < 0)) = true then -4611686018427387904 else 4611686018427387904) := by
      intro z
      simp only [bound_Mul.j1]
      rw [if_neg (by decide), w64 (by decide) (by decide)]
      by_cases g : (decide (x < 0) != decide (y < 0)) = true
      · rw [if_pos g, if_pos g]
      · rw [if_neg g, if_neg g]
    generalize s * t = m at *
    by_cases g1 : m / 18446744073709551616 = 0
    · rw [if_pos g1]
      by_cases g2 : m % 18446744073709551616 < 4611686018427387904
      · rw [decide_eq_true g2]
        have e : m % 18446744073709551616 = m := by omega
        simp only [bound_Mul.j1]
        rw [if_pos trivial, e, w64 (x := m) (by omega) (by omega), w64 (by omega) (by omega), show min m 4611686018427387904 = m by omega]
        by_cases g : (decide (x < 0) != decide (y < 0)) = true
        · rw [if_pos g, if_pos g]
        · rw [if_neg g, if_neg g]
      · rw [decide_eq_false g2, jf, show min m 4611686018427387904 = 4611686018427387904 by omega]
    · rw [if_neg g1, jf, show min m 4611686018427387904 = 4611686018427387904 by omega]
  rw [hs _ _ (by split <;> omega) (by split <;> omega) (by split <;> omega) (by split <;> omega)]
  congr 1
  by_cases g1 : x < 0
  · by_cases g2 : y < 0
    · rw [decide_eq_true g1, decide_eq_true g2, if_neg (by decide), if_pos g1, if_pos g2, Int.neg_mul_neg]
      have := Int.mul_pos_of_neg_of_neg g1 g2
      omega
    · rw [decide_eq_true g1, decide_eq_false g2, if_pos (by decide), if_pos g1, if_neg g2, Int.neg_mul]
      have := Int.mul_neg_of_neg_of_pos g1 (by omega : 0 < y)
      omega
  · by_cases g2 : y < 0
    · rw [decide_eq_false g1, decide_eq_true g2, if_pos (by decide), if_neg g1, if_pos g2, Int.mul_neg]
      have := Int.mul_neg_of_pos_of_neg (by omega : 0 < x) g2
      omega
    · rw [decide_eq_false g1, decide_eq_false g2, if_neg (by decide), if_neg g1, if_neg g2]
      have := Int.mul_pos (by omega : 0 < x) (by omega : 0 < y)
      omega
def mu (p q : Int × Int) : Int × Int := hl (mv p.1 q.1) (mv p.1 q.2) (mv p.2 q.1) (mv p.2 q.2)
theorem mulf (k : Nat) (a b c d : Int) : itv_Mul.f (k + 3) a b c d = some (op2 mu (C a b) (C c d)) := by
  unfold itv_Mul.f itv_both_itv_Mul_1.f op2
  rw [sound1, sound1, Option.bind_some, Option.bind_some]
  generalize C a b = p at *
  generalize C c d = q at *
  unfold itv_None.f
  rw [Option.bind_some, Option.bind_some]
  have jt : itv_both_itv_Mul_1.j0 (k + 3) true p.1 p.2 q.1 q.2 = some (1, 0) := rfl
  by_cases h1 : p.1 > p.2
  · rw [decide_eq_true h1, if_pos rfl, jt, if_pos (Or.inl h1), Option.bind_some]
  rw [decide_eq_false h1, if_neg (by decide)]
  by_cases h2 : q.1 > q.2
  · rw [decide_eq_true h2, jt, if_pos (Or.inr h2), Option.bind_some]
  rw [decide_eq_false h2, if_neg (by omega : ¬ (p.1 > p.2 ∨ q.1 > q.2))]
  simp only [itv_both_itv_Mul_1.j0]
  unfold itv_Mul_1.f mu
  rw [if_neg (by decide), mvf, Option.bind_some, mvf, Option.bind_some, mvf, Option.bind_some, mvf, Option.bind_some, hlf, Option.bind_some, Option.bind_some, Option.bind_some]
/-- is a number in an interval -/
def hs (p : Int × Int) (x : Int) : Bool := decide (p.1 ≤ p.2 ∧ (p.1 = -4611686018427387904 ∨ p.1 ≤ x) ∧ (p.2 = 4611686018427387904 ∨ x ≤ p.2))
def In (p : Int × Int) (x : Int) : Prop := p.1 ≤ x ∧ x ≤ p.2
/-- does a comparison hold -/
def ho (op x y : Int) : Bool := if op = 14 then x == y else if op = 15 then x != y else if op = 16 then decide (x < y) else if op = 17 then decide (x ≤ y) else if op = 18 then decide (x > y) else decide (x ≥ y)
theorem lin {a b t : Int} (c : Int) (h1 : a ≤ t) (h2 : t ≤ b) : min (c * a) (c * b) ≤ c * t ∧ c * t ≤ max (c * a) (c * b) := by
  by_cases h : 0 ≤ c
  · have := Int.mul_le_mul_of_nonneg_left h1 h
    have := Int.mul_le_mul_of_nonneg_left h2 h
    omega
  · have := Int.mul_le_mul_of_nonpos_left (by omega : c ≤ 0) h1
    have := Int.mul_le_mul_of_nonpos_left (by omega : c ≤ 0) h2
    omega
theorem ediv_mono {a a' b b' : Int} (h0 : 0 ≤ a) (h1 : a ≤ a') (h2 : 0 < b') (h3 : b' ≤ b) : a / b ≤ a' / b' := by
  rw [Int.le_ediv_iff_mul_le h2]
  have e1 : a / b * b ≤ a := Int.ediv_mul_le a (by omega)
  have e2 : 0 ≤ a / b := Int.ediv_nonneg h0 (by omega)
  have e3 : a / b * b' ≤ a / b * b := Int.mul_le_mul_of_nonneg_left h3 e2
  omega
theorem tdiv_pos {a b : Int} (h : 0 ≤ a) : Int.tdiv a b = a / b := Int.tdiv_eq_ediv_of_nonneg h
theorem tdiv_neg' {a b : Int} (h : a ≤ 0) : Int.tdiv a b = -((-a) / b) := by
  rw [← Int.tdiv_eq_ediv_of_nonneg (by omega : 0 ≤ -a), Int.neg_tdiv, Int.neg_neg]
theorem tdiv_ge0 {a b : Int} (h : 0 ≤ a) (hb : 0 ≤ b) : 0 ≤ Int.tdiv a b := by rw [tdiv_pos h]; exact Int.ediv_nonneg h hb
theorem tdiv_le0 {a b : Int} (h : a ≤ 0) (hb : 0 ≤ b) : Int.tdiv a b ≤ 0 := by
  rw [tdiv_neg' h]
  have := Int.ediv_nonneg (by omega : 0 ≤ -a) hb
  omega
theorem tdiv_size (x y : Int) : (Int.tdiv x y).natAbs ≤ x.natAbs := by rw [Int.natAbs_tdiv]; exact Nat.div_le_self _ _
/-- the corners of a quotient by what lies above 0 -/
theorem dv_low {p d : Int × Int} (hp : S p) (hd1 : 1 ≤ d.1) (hd2 : d.2 ≤ 4611686018427387904) {x y : Int} (hx : In p x) (hy : In d y) (b : y < 4611686018427387904) : (dv p.1 d.1 ≤ Int.tdiv x y ∨ dv p.1 d.2 ≤ Int.tdiv x y) ∧ (Int.tdiv x y ≤ dv p.2 d.1 ∨ Int.tdiv x y ≤ dv p.2 d.2) := by
  have hp' := hp
  unfold S at hp'
  unfold In at hx hy
  have f1 := fitm_id (a := p.1) (by omega) (by omega)
  have f2 := fitm_id (a := p.2) (by omega) (by omega)
  have f3 := fitm_id (a := d.1) (by omega) (by omega)
  have f4 := fitm_id (a := d.2) (by omega) (by omega)
  unfold dv
  rw [f1, f2, f3, f4]
  constructor
  · by_cases g : p.1 ≥ 0
    · right
      by_cases g1 : d.2 = 0 ∨ d.2 = 4611686018427387904 ∨ d.2 = -4611686018427387904 ∨ p.1 = 0
      · rw [if_pos g1]; exact tdiv_ge0 (by omega) (by omega)
      · rw [if_neg g1, if_neg (by omega), tdw (by omega) (by omega), tdiv_pos g, tdiv_pos (by omega)]
        exact ediv_mono g hx.1 (by omega) hy.2
    · left
      have g1 : ¬ (d.1 = 0 ∨ d.1 = 4611686018427387904 ∨ d.1 = -4611686018427387904 ∨ p.1 = 0) := by omega
      rw [if_neg g1]
      by_cases g2 : p.1 = 4611686018427387904 ∨ p.1 = -4611686018427387904
      · rw [if_pos g2, decide_eq_true (by omega : p.1 < 0), decide_eq_false (by omega), if_neg (by decide)]
        have := tdiv_size x y
        omega
      · rw [if_neg g2, tdw (by omega) (by omega)]
        by_cases g3 : 0 ≤ x
        · have e1 := tdiv_ge0 (b := y) g3 (by omega)
          have e2 := tdiv_le0 (a := p.1) (b := d.1) (by omega) (by omega)
          omega
        · rw [tdiv_neg' (by omega : p.1 ≤ 0), tdiv_neg' (by omega : x ≤ 0)]
          have := ediv_mono (a := -x) (a' := -p.1) (b := y) (b' := d.1) (by omega) (by omega) (by omega) hy.1
          omega
  · by_cases g : p.2 ≤ 0
    · right
      by_cases g1 : d.2 = 0 ∨ d.2 = 4611686018427387904 ∨ d.2 = -4611686018427387904 ∨ p.2 = 0
      · rw [if_pos g1]; exact tdiv_le0 (by omega) (by omega)
      · rw [if_neg g1, if_neg (by omega), tdw (by omega) (by omega), tdiv_neg' g, tdiv_neg' (by omega)]
        have := ediv_mono (a := -p.2) (a' := -x) (b := d.2) (b' := y) (by omega) (by omega) (by omega) hy.2
        omega
    · left
      have g1 : ¬ (d.1 = 0 ∨ d.1 = 4611686018427387904 ∨ d.1 = -4611686018427387904 ∨ p.2 = 0) := by omega
      rw [if_neg g1]
      by_cases g2 : p.2 = 4611686018427387904 ∨ p.2 = -4611686018427387904
      · rw [if_pos g2, decide_eq_false (by omega : ¬ p.2 < 0), decide_eq_false (by omega), if_pos (by decide)]
        have := tdiv_size x y
        omega
      · rw [if_neg g2, tdw (by omega) (by omega)]
        by_cases g3 : x ≤ 0
        · have e1 := tdiv_le0 (b := y) g3 (by omega)
          have e2 := tdiv_ge0 (a := p.2) (b := d.1) (by omega) (by omega)
          omega
        · rw [tdiv_pos (by omega : 0 ≤ p.2), tdiv_pos (by omega : 0 ≤ x)]
          exact ediv_mono (by omega) hx.2 (by omega) hy.1
theorem dv_neg (a b : Int) (h1 : -4611686018427387904 ≤ b) (h2 : b ≤ 4611686018427387904) : dv a (-b) = -(dv a b) := by
  unfold dv
  rw [fitm_id (a := -b) (by omega) (by omega), fitm_id h1 h2]
  obtain ⟨f1, f2⟩ := fitm_le a
  generalize fitm a = x at *
  by_cases g1 : b = 0 ∨ b = 4611686018427387904 ∨ b = -4611686018427387904 ∨ x = 0
  · rw [if_pos g1, if_pos (by omega)]; rfl
  · rw [if_neg g1, if_neg (by omega)]
    by_cases g2 : x = 4611686018427387904 ∨ x = -4611686018427387904
    · rw [if_pos g2, if_pos g2]
      by_cases g3 : b < 0
      · rw [decide_eq_true g3, decide_eq_false (by omega : ¬ -b < 0)]
        cases decide (x < 0) <;> rfl
      · rw [decide_eq_false g3, decide_eq_true (by omega : -b < 0)]
        cases decide (x < 0) <;> rfl
    · rw [if_neg g2, if_neg g2, tdw (by omega) (by omega), tdw (by omega) (by omega), Int.tdiv_neg]
/-- a remainder: its sign and its size -/
theorem tmod_facts (x y : Int) (h : y ≠ 0) : (0 ≤ x → 0 ≤ Int.tmod x y ∧ Int.tmod x y ≤ x) ∧ (x ≤ 0 → x ≤ Int.tmod x y ∧ Int.tmod x y ≤ 0) ∧ (Int.tmod x y).natAbs < y.natAbs := by
  have hn : (Int.tmod x y).natAbs = x.natAbs % y.natAbs := Int.natAbs_tmod x y
  have hl : x.natAbs % y.natAbs < y.natAbs := Nat.mod_lt _ (by omega)
  have hm : x.natAbs % y.natAbs ≤ x.natAbs := Nat.mod_le _ _
  refine ⟨fun h1 => ?_, fun h1 => ?_, by omega⟩
  · have := Int.tmod_nonneg y h1
    omega
  · have h2 := Int.tmod_nonneg (a := -x) y (by omega)
    rw [Int.neg_tmod] at h2
    omega
theorem tdiv_mono {a b n : Int} (hn : 0 < n) (h : a ≤ b) : Int.tdiv a n ≤ Int.tdiv b n := by
  by_cases h1 : 0 ≤ a
  · rw [tdiv_pos h1, tdiv_pos (by omega)]
    exact ediv_mono h1 h hn (Int.le_refl _)
  · by_cases h2 : 0 ≤ b
    · have e1 := tdiv_le0 (a := a) (b := n) (by omega) (by omega)
      have e2 := tdiv_ge0 (a := b) (b := n) h2 (by omega)
      omega
    · rw [tdiv_neg' (by omega : a ≤ 0), tdiv_neg' (by omega : b ≤ 0)]
      have := ediv_mono (a := -b) (a' := -a) (b := n) (b' := n) (by omega) (by omega) hn (Int.le_refl _)
      omega
/-- one interval with numbers within another -/
def Sub (p r : Int × Int) : Prop := r.1 ≤ p.1 ∧ p.2 ≤ r.2
theorem C_mono {a b a' b' : Int} (h1 : a' ≤ a) (h2 : b ≤ b') : leq (C a b) (C a' b') = true := by
  rw [leq_iff]
  unfold C lo hi
  by_cases g : a > b
  · rw [if_pos g]; left; decide
  · rw [if_neg g, if_neg (by omega : ¬ a' > b')]
    right
    dsimp only
    refine ⟨?_, ?_, ?_⟩ <;> (repeat' split) <;> omega
theorem leq_E (r : Int × Int) : leq (1, 0) r = true := by rw [leq_iff]; left; decide
theorem leq_none {p : Int × Int} (h : p.1 > p.2) (r : Int × Int) : leq p r = true := by rw [leq_iff]; exact Or.inl h
theorem leq_S {p r : Int × Int} (hp : S p) (hr : W r) (h : leq p r = true) : S r ∧ Sub p r := by
  rw [leq_iff] at h
  have hp' := hp
  unfold S at hp'
  exact ⟨S_W hr (by omega), by unfold Sub; omega⟩
theorem Sub_leq {p r : Int × Int} (hp : S p) (h : Sub p r) : leq p r = true := by
  rw [leq_iff]
  unfold S at hp
  unfold Sub at h
  omega
theorem op2_mono {o : Int × Int → Int × Int → Int × Int} (ho : ∀ p q r s : Int × Int, S p → S q → S r → S s → Sub p r → Sub q s → leq (o p q) (o r s) = true) {p q r s : Int × Int} (hp : W p) (hq : W q) (hr : W r) (hs : W s)
    (h1 : leq p r = true) (h2 : leq q s = true) : leq (op2 o p q) (op2 o r s) = true := by
  by_cases g : p.1 > p.2 ∨ q.1 > q.2
  · have e : op2 o p q = (1, 0) := by unfold op2; rw [if_pos g]
    rw [e]; exact leq_E _
  · have sp := S_W hp (fun x => g (Or.inl x))
    have sq := S_W hq (fun x => g (Or.inr x))
    obtain ⟨sr, u1⟩ := leq_S sp hr h1
    obtain ⟨ss, u2⟩ := leq_S sq hs h2
    have e1 : op2 o p q = o p q := by unfold op2; rw [if_neg g]
    have e2 : op2 o r s = o r s := by
      unfold op2
      unfold S at sr ss
      rw [if_neg (by omega)]
    rw [e1, e2]
    exact ho p q r s sp sq sr ss u1 u2
theorem upv_mono {a b a' b' : Int} (h1 : a ≤ a') (h2 : b ≤ b') : upv a b ≤ upv a' b' := by
  unfold upv fitm
  split <;> split <;> omega
theorem fitm_mono {a b : Int} (h : a ≤ b) : fitm a ≤ fitm b := by unfold fitm; omega
theorem dnv_mono {a b a' b' : Int} (h1 : a ≤ a') (h2 : b ≤ b') : dnv a b ≤ dnv a' b' := by
  unfold dnv
  have f1 := fitm_mono h1
  have f2 := fitm_mono h2
  have := upv_mono (a := -(fitm a')) (b := -(fitm b')) (a' := -(fitm a)) (b' := -(fitm b)) (by omega) (by omega)
  omega
theorem ad_mono (p q r s : Int × Int) (_ : S p) (_ : S q) (_ : S r) (_ : S s) (h1 : Sub p r) (h2 : Sub q s) : leq (ad p q) (ad r s) = true := C_mono (dnv_mono h1.1 h2.1) (upv_mono h1.2 h2.2)
theorem ne_mono {p r : Int × Int} (hp : W p) (hr : W r) (h : leq p r = true) : leq (ne p) (ne r) = true := by
  by_cases g : p.1 > p.2
  · have e : ne p = p := by unfold ne; rw [if_pos g]
    rw [e]; exact leq_none g _
  · obtain ⟨sr, u⟩ := leq_S (S_W hp g) hr h
    unfold ne
    unfold S at sr
    unfold Sub at u
    rw [if_neg g, if_neg (by omega)]
    exact C_mono (by omega) (by omega)
theorem ab_C {p : Int × Int} (hp : S p) : ab p = C (if p.1 ≥ 0 then p.1 else if p.2 ≤ 0 then -p.2 else 0) (if p.1 ≥ 0 then p.2 else if p.2 ≤ 0 then -p.1 else max (-p.1) p.2) := by
  have hp' := hp
  unfold S at hp'
  unfold ab
  by_cases h1 : p.1 ≥ 0
  · rw [if_pos (Or.inr h1), if_pos h1, if_pos h1, C_S hp]
  · rw [if_neg (by omega), if_neg h1, if_neg h1]
    by_cases h2 : p.2 ≤ 0
    · rw [if_pos h2, if_pos h2, if_pos h2]
    · rw [if_neg h2, if_neg h2, if_neg h2]
theorem ab_mono {p r : Int × Int} (hp : W p) (hr : W r) (h : leq p r = true) : leq (ab p) (ab r) = true := by
  by_cases g : p.1 > p.2
  · have e : ab p = p := by unfold ab; rw [if_pos (Or.inl g)]
    rw [e]; exact leq_none g _
  · have sp := S_W hp g
    obtain ⟨sr, u⟩ := leq_S sp hr h
    rw [ab_C sp, ab_C sr]
    unfold S at sp sr
    unfold Sub at u
    refine C_mono ?_ ?_ <;> (repeat' split) <;> omega
def mi (p q : Int × Int) : Int × Int := C (min p.1 q.1) (min p.2 q.2)
def ma (p q : Int × Int) : Int × Int := C (max p.1 q.1) (max p.2 q.2)
theorem mi_mono (p q r s : Int × Int) (_ : S p) (_ : S q) (_ : S r) (_ : S s) (h1 : Sub p r) (h2 : Sub q s) : leq (mi p q) (mi r s) = true := by
  unfold Sub at h1 h2
  exact C_mono (by omega) (by omega)
theorem ma_mono (p q r s : Int × Int) (_ : S p) (_ : S q) (_ : S r) (_ : S s) (h1 : Sub p r) (h2 : Sub q s) : leq (ma p q) (ma r s) = true := by
  unfold Sub at h1 h2
  exact C_mono (by omega) (by omega)
theorem hl_mono {a b c d a' b' c' d' : Int} (h1 : min (min a' b') (min c' d') ≤ a ∧ a ≤ max (max a' b') (max c' d')) (h2 : min (min a' b') (min c' d') ≤ b ∧ b ≤ max (max a' b') (max c' d'))
    (h3 : min (min a' b') (min c' d') ≤ c ∧ c ≤ max (max a' b') (max c' d')) (h4 : min (min a' b') (min c' d') ≤ d ∧ d ≤ max (max a' b') (max c' d')) : leq (hl a b c d) (hl a' b' c' d') = true := by
  unfold hl
  exact C_mono (by omega) (by omega)
theorem mv_box {r s : Int × Int} (hr : S r) (hs : S s) {x y : Int} (hx : In r x) (hy : In s y) : min (min (mv r.1 s.1) (mv r.1 s.2)) (min (mv r.2 s.1) (mv r.2 s.2)) ≤ mv x y ∧ mv x y ≤ max (max (mv r.1 s.1) (mv r.1 s.2)) (max (mv r.2 s.1) (mv r.2 s.2)) := by
  unfold mv
  unfold S at hr hs
  unfold In at hx hy
  rw [fitm_id (a := r.1) (by omega) (by omega), fitm_id (a := r.2) (by omega) (by omega), fitm_id (a := s.1) (by omega) (by omega), fitm_id (a := s.2) (by omega) (by omega), fitm_id (a := x) (by omega) (by omega), fitm_id (a := y) (by omega) (by omega)]
  have l1 := lin y hx.1 hx.2
  have l2 := lin r.1 hy.1 hy.2
  have l3 := lin r.2 hy.1 hy.2
  rw [Int.mul_comm y r.1, Int.mul_comm y r.2, Int.mul_comm y x] at l1
  generalize x * y = t at *
  generalize r.1 * s.1 = c1 at *
  generalize r.1 * s.2 = c2 at *
  generalize r.2 * s.1 = c3 at *
  generalize r.2 * s.2 = c4 at *
  generalize r.1 * y = c5 at *
  generalize r.2 * y = c6 at *
  omega
theorem mu_mono (p q r s : Int × Int) (hp : S p) (hq : S q) (hr : S r) (hs : S s) (h1 : Sub p r) (h2 : Sub q s) : leq (mu p q) (mu r s) = true := by
  unfold S at hp hq
  unfold Sub at h1 h2
  have i1 : In r p.1 := by unfold In; omega
  have i2 : In r p.2 := by unfold In; omega
  have i3 : In s q.1 := by unfold In; omega
  have i4 : In s q.2 := by unfold In; omega
  exact hl_mono (mv_box hr hs i1 i3) (mv_box hr hs i1 i4) (mv_box hr hs i2 i3) (mv_box hr hs i2 i4)
theorem dv_le (a b : Int) : -4611686018427387904 ≤ dv a b ∧ dv a b ≤ 4611686018427387904 := by
  unfold dv
  obtain ⟨h1, h2⟩ := fitm_le a
  have := tdiv_size (fitm a) (fitm b)
  rw [tdw h1 h2]
  (repeat' split) <;> omega
theorem dv_fin {x y : Int} (hx : -4611686018427387904 < x ∧ x < 4611686018427387904) (hy : 1 ≤ y ∧ y < 4611686018427387904) : dv x y = Int.tdiv x y := by
  unfold dv
  rw [fitm_id (a := x) (by omega) (by omega), fitm_id (a := y) (by omega) (by omega)]
  by_cases g : x = 0
  · rw [if_pos (by omega), g, Int.zero_tdiv]
  · rw [if_neg (by omega), if_neg (by omega), tdw (by omega) (by omega)]
theorem dv_big {y : Int} (hy : 1 ≤ y ∧ y < 4611686018427387904) : dv 4611686018427387904 y = 4611686018427387904 ∧ dv (-4611686018427387904) y = -4611686018427387904 := by
  have f1 : fitm 4611686018427387904 = 4611686018427387904 := by decide
  have f2 : fitm (-4611686018427387904) = -4611686018427387904 := by decide
  unfold dv
  rw [f1, f2, fitm_id (a := y) (by omega) (by omega), decide_eq_false (by omega : ¬ y < 0)]
  constructor
  · rw [if_neg (by omega), if_pos (Or.inl rfl), if_pos (by decide)]
  · rw [if_neg (by omega), if_pos (Or.inr rfl), if_neg (by decide)]
theorem dv_inf (x : Int) : dv x 4611686018427387904 = 0 := by
  unfold dv
  rw [if_pos (Or.inr (Or.inl (by decide)))]
theorem dv_box {r e : Int × Int} (hr : S r) (he1 : 1 ≤ e.1) (he2 : e.2 ≤ 4611686018427387904) {x y : Int} (hx : In r x) (hy : In e y) : min (min (dv r.1 e.1) (dv r.1 e.2)) (min (dv r.2 e.1) (dv r.2 e.2)) ≤ dv x y ∧ dv x y ≤ max (max (dv r.1 e.1) (dv r.1 e.2)) (max (dv r.2 e.1) (dv r.2 e.2)) := by
  have hr' := hr
  have hx' := hx
  have hy' := hy
  unfold S at hr'
  unfold In at hx' hy'
  by_cases g : y = 4611686018427387904
  · have e2 : e.2 = 4611686018427387904 := by omega
    rw [g, e2, dv_inf, dv_inf, dv_inf]
    omega
  · have l1 := dv_le r.1 e.1
    have l2 := dv_le r.2 e.1
    by_cases g1 : x = 4611686018427387904
    · have e1 : r.2 = 4611686018427387904 := by omega
      have b1 := (dv_big (y := y) (by omega)).1
      have b2 := (dv_big (y := e.1) (by omega)).1
      rw [← e1] at b2
      rw [g1, b1]
      omega
    · by_cases g2 : x = -4611686018427387904
      · have e1 : r.1 = -4611686018427387904 := by omega
        have b1 := (dv_big (y := y) (by omega)).2
        have b2 := (dv_big (y := e.1) (by omega)).2
        rw [← e1] at b2
        rw [g2, b1]
        omega
      · rw [dv_fin (x := x) (y := y) (by omega) (by omega)]
        obtain ⟨k1, k2⟩ := dv_low hr he1 he2 hx hy (by omega)
        omega
theorem dv_boxn {r e : Int × Int} (hr : S r) (he1 : e.2 ≤ -1) (he2 : -4611686018427387904 ≤ e.1) {x y : Int} (hx : In r x) (hy : In e y) : min (min (dv r.1 e.1) (dv r.1 e.2)) (min (dv r.2 e.1) (dv r.2 e.2)) ≤ dv x y ∧ dv x y ≤ max (max (dv r.1 e.1) (dv r.1 e.2)) (max (dv r.2 e.1) (dv r.2 e.2)) := by
  have hy' := hy
  unfold In at hy'
  have hyn : In (-e.2, -e.1) (-y) := by unfold In; dsimp only; omega
  have k := dv_box (e := (-e.2, -e.1)) hr (by dsimp only; omega) (by dsimp only; omega) hx hyn
  dsimp only at k
  rw [dv_neg r.1 e.1 (by omega) (by omega), dv_neg r.1 e.2 (by omega) (by omega), dv_neg r.2 e.1 (by omega) (by omega), dv_neg r.2 e.2 (by omega) (by omega), dv_neg x y (by omega) (by omega)] at k
  omega
theorem dq_mono {p r d e : Int × Int} (hp : S p) (hr : S r) (h1 : Sub p r) (hd : W d) (he : W e) (h2 : leq d e = true) (hz : e.1 > e.2 ∨ 1 ≤ e.1 ∨ e.2 ≤ -1) : leq (dq p d) (dq r e) = true := by
  by_cases g : d.1 > d.2
  · have : dq p d = (1, 0) := by unfold dq; rw [if_pos g]
    rw [this]; exact leq_E _
  · have sd := S_W hd g
    obtain ⟨se, u⟩ := leq_S sd he h2
    have se' := se
    have sd' := sd
    unfold S at se' sd' hp
    unfold Sub at u h1
    have i1 : In r p.1 := by unfold In; omega
    have i2 : In r p.2 := by unfold In; omega
    have i3 : In e d.1 := by unfold In; omega
    have i4 : In e d.2 := by unfold In; omega
    unfold dq
    rw [if_neg g, if_neg (by omega)]
    rcases hz with hz | hz | hz
    · omega
    · have b : e.2 ≤ 4611686018427387904 := by omega
      exact hl_mono (dv_box hr hz b i1 i3) (dv_box hr hz b i1 i4) (dv_box hr hz b i2 i3) (dv_box hr hz b i2 i4)
    · have b : -4611686018427387904 ≤ e.1 := by omega
      exact hl_mono (dv_boxn hr hz b i1 i3) (dv_boxn hr hz b i1 i4) (dv_boxn hr hz b i2 i3) (dv_boxn hr hz b i2 i4)
theorem me_mono {p q r s : Int × Int} (h1 : leq p r = true) (h2 : leq q s = true) : leq (me p q) (me r s) = true := leq_me (leq_trans leq_me1 h1) (leq_trans leq_me2 h2)
theorem leq_refl (p : Int × Int) : leq p p = true := by rw [leq_iff]; omega
theorem DV_mono (p q r s : Int × Int) (hp : S p) (hq : S q) (hr : S r) (hs : S s) (h1 : Sub p r) (h2 : Sub q s) : leq (DV p q) (DV r s) = true := by
  have l := Sub_leq hq h2
  have l1 : leq (ng q) (ng s) = true := me_mono l (leq_refl _)
  have l2 : leq (ps q) (ps s) = true := me_mono l (leq_refl _)
  have k1 := dq_mono hp hr h1 (W_ng (Or.inr hq)) (W_ng (Or.inr hs)) l1 (by
    by_cases g : (ng s).1 > (ng s).2
    · exact Or.inl g
    · exact Or.inr (Or.inr (ng_le g)))
  have k2 := dq_mono hp hr h1 (W_ps (Or.inr hq)) (W_ps (Or.inr hs)) l2 (by
    by_cases g : (ps s).1 > (ps s).2
    · exact Or.inl g
    · exact Or.inr (Or.inl (ps_ge g)))
  unfold DV
  exact jn_leq (leq_trans k1 leq_jn1) (leq_trans k2 leq_jn2)
theorem sz_mono {q s : Int × Int} (hq : S q) (h : Sub q s) (hb : ¬ ((ng q).1 > (ng q).2 ∧ (ps q).1 > (ps q).2)) :
    ¬ ((ng s).1 > (ng s).2 ∧ (ps s).1 > (ps s).2) ∧ szn s ≤ szn q ∧ szm q ≤ szm s ∧ szn q ≤ szm q ∧ (onz s = true → onz q = true) := by
  have l := Sub_leq hq h
  have l1 : leq (ng q) (ng s) = true := me_mono l (leq_refl _)
  have l2 : leq (ps q) (ps s) = true := me_mono l (leq_refl _)
  rw [leq_iff] at l1 l2
  have g1 := @ng_le q
  have g2 := @ps_ge q
  have g3 := @ng_le s
  have g4 := @ps_ge s
  unfold onz szn szm
  rw [decide_eq_true_iff, decide_eq_true_iff]
  generalize ng q = a at *
  generalize ps q = b at *
  generalize ng s = c at *
  generalize ps s = d at *
  by_cases k1 : a.1 > a.2
  · have k2 : ¬ b.1 > b.2 := fun x => hb ⟨k1, x⟩
    have k4 : ¬ d.1 > d.2 := by omega
    have := g2 k2
    have := g4 k4
    rw [if_pos k1, if_pos k1]
    by_cases k3 : c.1 > c.2
    · rw [if_pos k3, if_pos k3]; omega
    · have := g3 k3
      rw [if_neg k3, if_neg k3, if_neg k4, if_neg k4]; omega
  · have k3 : ¬ c.1 > c.2 := by omega
    have := g1 k1
    have := g3 k3
    rw [if_neg k1, if_neg k1, if_neg k3, if_neg k3]
    by_cases k2 : b.1 > b.2
    · rw [if_pos k2, if_pos k2]
      by_cases k4 : d.1 > d.2
      · rw [if_pos k4, if_pos k4]; omega
      · have := g4 k4
        rw [if_neg k4, if_neg k4]; omega
    · have k4 : ¬ d.1 > d.2 := by omega
      have := g2 k2
      have := g4 k4
      rw [if_neg k2, if_neg k2, if_neg k4, if_neg k4]; omega
theorem MD_mono (p q r s : Int × Int) (hp : S p) (hq : S q) (hr : S r) (hs : S s) (h1 : Sub p r) (h2 : Sub q s) : leq (MD p q) (MD r s) = true := by
  by_cases hb : (ng q).1 > (ng q).2 ∧ (ps q).1 > (ps q).2
  · have e : MD p q = (1, 0) := by unfold MD; rw [if_pos hb]
    rw [e]; exact leq_E _
  obtain ⟨hbs, n1, n2, n3, n4⟩ := sz_mono hq h2 hb
  obtain ⟨z1, z2, z3, z4⟩ := szn_pos (Or.inr hq) hb
  obtain ⟨y1, y2, y3, y4⟩ := szn_pos (Or.inr hs) hbs
  have hp' := hp
  have hr' := hr
  have h1' := h1
  unfold S at hp' hr'
  unfold Sub at h1'
  have tq : 0 ≤ top q ∧ top q ≤ top s ∧ szn q ≤ top q + 1 := by unfold top; split <;> split <;> omega
  -- the third way's ends
  have low_le : ∀ v : Int, r.1 ≤ v ∨ 0 ≤ v → -(top s) ≤ v → (r.1 ≥ 0 → 0 ≤ v) → (if r.1 < 0 then max r.1 (-(top s)) else 0) ≤ v := by
    intro v a b c
    split
    · omega
    · exact c (by omega)
  have high_ge : ∀ v : Int, v ≤ r.2 ∨ v ≤ 0 → v ≤ top s → (r.2 ≤ 0 → v ≤ 0) → v ≤ (if r.2 > 0 then min r.2 (top s) else 0) := by
    intro v a b c
    split
    · omega
    · exact c (by omega)
  by_cases gA : r.1 > -(szn s) ∧ r.2 < szn s
  · have e1 : MD r s = r := by unfold MD; rw [if_neg hbs, if_pos gA]
    have e2 : MD p q = p := by unfold MD; rw [if_neg hb, if_pos (by omega)]
    rw [e1, e2]
    exact Sub_leq hp h1
  by_cases gB : onz s = true ∧ r.1 > -4611686018427387904 ∧ r.2 < 4611686018427387904 ∧ Int.tdiv r.1 (szn s) = Int.tdiv r.2 (szn s)
  · have e1 : MD r s = C (Int.tmod r.1 (szn s)) (Int.tmod r.2 (szn s)) := by unfold MD; rw [if_neg hbs, if_neg gA, if_pos gB]
    obtain ⟨k1, k2, k3, k4⟩ := gB
    have k5 := (of_decide_eq_true k1).2
    have en : szn q = szn s := by omega
    have m1 := tdiv_mono (n := szn s) (by omega) h1'.1
    have m2 := tdiv_mono (n := szn s) (by omega) (by omega : p.1 ≤ p.2)
    have m3 := tdiv_mono (n := szn s) (by omega) h1'.2
    have q1 := Int.mul_tdiv_add_tmod r.1 (szn s)
    have q2 := Int.mul_tdiv_add_tmod r.2 (szn s)
    have q3 := Int.mul_tdiv_add_tmod p.1 (szn s)
    have q4 := Int.mul_tdiv_add_tmod p.2 (szn s)
    have t1 : Int.tdiv p.1 (szn s) = Int.tdiv r.1 (szn s) := by omega
    have t2 : Int.tdiv p.2 (szn s) = Int.tdiv r.1 (szn s) := by omega
    have f1 := tmod_facts r.1 (szn s) (by omega)
    have f2 := tmod_facts r.2 (szn s) (by omega)
    have nA : ¬ (p.1 > -(szn q) ∧ p.2 < szn q) := by
      intro x
      apply gA
      rw [en] at x
      have z : Int.tdiv p.1 (szn s) = 0 := by
        have : (Int.tdiv p.1 (szn s)).natAbs = p.1.natAbs / (szn s).natAbs := Int.natAbs_tdiv p.1 (szn s)
        rw [Nat.div_eq_of_lt (by omega)] at this
        omega
      rw [z] at t1
      rw [← t1, Int.mul_zero] at q1
      rw [← k4, ← t1, Int.mul_zero] at q2
      have := f1.2.2
      have := f2.2.2
      omega
    have e2 : MD p q = C (Int.tmod p.1 (szn q)) (Int.tmod p.2 (szn q)) := by
      unfold MD
      rw [if_neg hb, if_neg nA, if_pos ⟨n4 k1, by omega, by omega, by rw [en, t1, t2]⟩]
    rw [e1, e2, en]
    rw [t1] at q3
    rw [t2] at q4
    rw [← k4] at q2
    generalize szn s * Int.tdiv r.1 (szn s) = T at *
    exact C_mono (by omega) (by omega)
  have e1 : MD r s = C (if r.1 < 0 then max r.1 (-(top s)) else 0) (if r.2 > 0 then min r.2 (top s) else 0) := by unfold MD; rw [if_neg hbs, if_neg gA, if_neg gB]
  rw [e1]
  by_cases pA : p.1 > -(szn q) ∧ p.2 < szn q
  · have e2 : MD p q = C p.1 p.2 := by unfold MD; rw [if_neg hb, if_pos pA, C_S hp]
    rw [e2]
    exact C_mono (low_le _ (by omega) (by omega) (by omega)) (high_ge _ (by omega) (by omega) (by omega))
  by_cases pB : onz q = true ∧ p.1 > -4611686018427387904 ∧ p.2 < 4611686018427387904 ∧ Int.tdiv p.1 (szn q) = Int.tdiv p.2 (szn q)
  · have e2 : MD p q = C (Int.tmod p.1 (szn q)) (Int.tmod p.2 (szn q)) := by unfold MD; rw [if_neg hb, if_neg pA, if_pos pB]
    rw [e2]
    obtain ⟨f1, f2, f3⟩ := tmod_facts p.1 (szn q) (by omega)
    obtain ⟨f4, f5, f6⟩ := tmod_facts p.2 (szn q) (by omega)
    refine C_mono (low_le _ ?_ ?_ ?_) (high_ge _ ?_ ?_ ?_)
    · by_cases g : 0 ≤ p.1
      · exact Or.inr (f1 g).1
      · have := f2 (by omega); omega
    · omega
    · intro g; exact (f1 (by omega)).1
    · by_cases g : 0 ≤ p.2
      · have := f4 g; omega
      · have := f5 (by omega); omega
    · omega
    · intro g; exact (f5 (by omega)).2
  · have e2 : MD p q = C (if p.1 < 0 then max p.1 (-(top q)) else 0) (if p.2 > 0 then min p.2 (top q) else 0) := by unfold MD; rw [if_neg hb, if_neg pA, if_neg pB]
    rw [e2]
    refine C_mono (low_le _ ?_ ?_ ?_) (high_ge _ ?_ ?_ ?_)
    · split <;> omega
    · split <;> omega
    · intro g; rw [if_neg (by omega)]; omega
    · split <;> omega
    · split <;> omega
    · intro g; rw [if_neg (by omega)]; omega
theorem low_mono (g : Int) {p q r s : Int × Int} (hp : S p) (hr : S r) (h1 : Sub p r) (h2 : Sub q s) : leq (low g p q) (low g r s) = true := by
  unfold Sub at h1 h2
  unfold low
  by_cases k : s.2 < 4611686018427387904
  · rw [if_pos (by omega), if_pos k]
    exact C_mono (by omega) (by omega)
  · rw [if_neg k]
    have e : leq (C r.1 r.2) r = true := by rw [C_S hr]; exact leq_refl _
    by_cases k2 : q.2 < 4611686018427387904
    · rw [if_pos k2]
      exact leq_trans (C_mono (by omega) (by omega)) e
    · rw [if_neg k2]
      exact Sub_leq hp h1
theorem high_mono (g : Int) {p q r s : Int × Int} (hp : S p) (hr : S r) (h1 : Sub p r) (h2 : Sub q s) : leq (high g p q) (high g r s) = true := by
  unfold Sub at h1 h2
  unfold high
  by_cases k : s.1 > -4611686018427387904
  · rw [if_pos (by omega), if_pos k]
    exact C_mono (by omega) (by omega)
  · rw [if_neg k]
    have e : leq (C r.1 r.2) r = true := by rw [C_S hr]; exact leq_refl _
    by_cases k2 : q.1 > -4611686018427387904
    · rw [if_pos k2]
      exact leq_trans (C_mono (by omega) (by omega)) e
    · rw [if_neg k2]
      exact Sub_leq hp h1
theorem wo_mono {p q r s : Int × Int} (hp : S p) (hr : S r) (hq : S q) (h1 : Sub p r) (h2 : Sub q s) : leq (wo p q) (wo r s) = true := by
  have e : leq (C r.1 r.2) r = true := by rw [C_S hr]; exact leq_refl _
  have e' : leq p (C p.1 p.2) = true := by rw [C_S hp]; exact leq_refl _
  have h0 := h1
  unfold Sub at h1 h2
  unfold S at hq hp
  by_cases k : s.1 = s.2
  · have kq : q.1 = q.2 := by omega
    unfold wo
    rw [if_pos k, if_pos kq]
    by_cases a1 : s.1 = r.1
    · rw [if_pos a1]
      by_cases b1 : q.1 = p.1
      · rw [if_pos b1]; exact C_mono (by omega) (by omega)
      · rw [if_neg b1]
        by_cases b2 : q.1 = p.2
        · rw [if_pos b2]; exact C_mono (by omega) (by omega)
        · rw [if_neg b2]; exact leq_trans e' (C_mono (by omega) (by omega))
    · rw [if_neg a1]
      by_cases a2 : s.1 = r.2
      · rw [if_pos a2]
        by_cases b1 : q.1 = p.1
        · rw [if_pos b1]; exact leq_none ((C_none _ _).mpr (by omega)) _
        · rw [if_neg b1]
          by_cases b2 : q.1 = p.2
          · rw [if_pos b2]; exact C_mono (by omega) (by omega)
          · rw [if_neg b2]; exact leq_trans e' (C_mono (by omega) (by omega))
      · rw [if_neg a2]
        by_cases b1 : q.1 = p.1
        · rw [if_pos b1]; exact leq_trans (C_mono (by omega) (by omega)) e
        · rw [if_neg b1]
          by_cases b2 : q.1 = p.2
          · rw [if_pos b2]; exact leq_trans (C_mono (by omega) (by omega)) e
          · rw [if_neg b2]; exact leq_trans e' (leq_trans (C_mono (by omega) (by omega)) e)
  · have ew : wo r s = r := by unfold wo; rw [if_neg k]
    rw [ew]
    unfold wo
    (repeat' split) <;> first | exact leq_trans (C_mono (by omega) (by omega)) e | exact leq_trans e' (leq_trans (C_mono (by omega) (by omega)) e)
theorem tc_mono (op : Int) {p q r s : Int × Int} (hp : S p) (hq : S q) (hr : S r) (hs : S s) (h1 : Sub p r) (h2 : Sub q s) : leq (tc op p q).1 (tc op r s).1 = true ∧ leq (tc op p q).2 (tc op r s).2 = true := by
  have em : leq (mt p q) (mt r s) = true := by unfold mt; unfold Sub at h1 h2; exact C_mono (by omega) (by omega)
  unfold tc
  by_cases e1 : op = 14
  · rw [if_pos e1, if_pos e1]; exact ⟨em, em⟩
  rw [if_neg e1, if_neg e1]
  by_cases e2 : op = 15
  · rw [if_pos e2, if_pos e2]; exact ⟨wo_mono hp hr hq h1 h2, wo_mono hq hs hp h2 h1⟩
  rw [if_neg e2, if_neg e2]
  by_cases e3 : op = 18
  · rw [if_pos e3, if_pos e3]; exact ⟨high_mono 1 hp hr h1 h2, low_mono 1 hq hs h2 h1⟩
  rw [if_neg e3, if_neg e3]
  by_cases e4 : op = 19
  · rw [if_pos e4, if_pos e4]; exact ⟨high_mono 0 hp hr h1 h2, low_mono 0 hq hs h2 h1⟩
  rw [if_neg e4, if_neg e4]
  by_cases e5 : op = 16
  · rw [if_pos e5, if_pos e5]; exact ⟨low_mono 1 hp hr h1 h2, high_mono 1 hq hs h2 h1⟩
  rw [if_neg e5, if_neg e5]
  exact ⟨low_mono 0 hp hr h1 h2, high_mono 0 hq hs h2 h1⟩
theorem pr_mono (op : Int) {p q r s : Int × Int} (hp : S p) (hq : S q) (hr : S r) (hs : S s) (h1 : Sub p r) (h2 : Sub q s) (h : pr op p q = true) : pr op r s = true := by
  obtain ⟨a1, _⟩ := tc_none op hp hq
  obtain ⟨a2, _⟩ := tc_none op hr hs
  obtain ⟨m1, _⟩ := tc_mono op hp hq hr hs h1 h2
  rw [leq_iff] at m1
  cases e : pr op r s
  · have b := a2.mpr e
    have c : ¬ (tc op p q).1.1 > (tc op p q).1.2 := by
      intro x
      have := a1.mp x
      rw [h] at this
      exact absurd this (by decide)
    omega
  · rfl
theorem TT_S (op : Int) (ho : 14 ≤ op ∧ op ≤ 19) {p q : Int × Int} (hp : S p) (hq : S q) : TT op p q = if pr op p q = true then T4 (tc op p q).1 (tc op p q).2 else (1, 0, 1, 0) := by
  have hp' := hp
  have hq' := hq
  unfold S at hp' hq'
  unfold TT
  rw [if_neg (by omega), if_neg (by omega), tt_pr op hp hq]
/-- the two parts of what Test answers -/
def t1 (t : Int × Int × Int × Int) : Int × Int := (t.1, t.2.1)
def t2 (t : Int × Int × Int × Int) : Int × Int := (t.2.2.1, t.2.2.2)
theorem TT_none' (op : Int) (ho : 14 ≤ op ∧ op ≤ 19) {p q : Int × Int} (h : p.1 > p.2 ∨ q.1 > q.2) : TT op p q = (1, 0, 1, 0) := by
  unfold TT
  rw [if_neg (by omega), if_pos h]
theorem TT_mono (op : Int) (ho : 14 ≤ op ∧ op ≤ 19) {p q r s : Int × Int} (hp : W p) (hq : W q) (hr : W r) (hs : W s) (h1 : leq p r = true) (h2 : leq q s = true) :
    leq (t1 (TT op p q)) (t1 (TT op r s)) = true ∧ leq (t2 (TT op p q)) (t2 (TT op r s)) = true := by
  by_cases g : p.1 > p.2 ∨ q.1 > q.2
  · rw [TT_none' op ho g]; exact ⟨leq_E _, leq_E _⟩
  · have sp := S_W hp (fun x => g (Or.inl x))
    have sq := S_W hq (fun x => g (Or.inr x))
    obtain ⟨sr, u1⟩ := leq_S sp hr h1
    obtain ⟨ss, u2⟩ := leq_S sq hs h2
    rw [TT_S op ho sp sq, TT_S op ho sr ss]
    by_cases e : pr op p q = true
    · rw [if_pos e, if_pos (pr_mono op sp sq sr ss u1 u2 e)]
      exact tc_mono op sp sq sr ss u1 u2
    · rw [if_neg e]; exact ⟨leq_E _, leq_E _⟩
theorem HH_mono (op : Int) (ho : 14 ≤ op ∧ op ≤ 19) {p q r s : Int × Int} (hp : W p) (hq : W q) (hr : W r) (hs : W s) (h1 : leq p r = true) (h2 : leq q s = true) :
    ((HH op p q).1 = true → (HH op r s).1 = true) ∧ ((HH op p q).2 = true → (HH op r s).2 = true) := by
  by_cases g : p.1 > p.2 ∨ q.1 > q.2
  · have e : HH op p q = (false, false) := by unfold HH; rw [if_pos g]
    rw [e]; exact ⟨fun x => absurd x (by decide), fun x => absurd x (by decide)⟩
  · have sp := S_W hp (fun x => g (Or.inl x))
    have sq := S_W hq (fun x => g (Or.inr x))
    obtain ⟨sr, u1⟩ := leq_S sp hr h1
    obtain ⟨ss, u2⟩ := leq_S sq hs h2
    have g' : ¬ (r.1 > r.2 ∨ s.1 > s.2) := by unfold S at sr ss; omega
    have no : ¬ (op < 14 ∨ op > 19) := by omega
    have e1 : HH op p q = (pr op p q, pr (oth op) p q) := by unfold HH; rw [if_neg g, if_neg no]
    have e2 : HH op r s = (pr op r s, pr (oth op) r s) := by unfold HH; rw [if_neg g', if_neg no]
    rw [e1, e2]
    exact ⟨pr_mono op sp sq sr ss u1 u2, pr_mono (oth op) sp sq sr ss u1 u2⟩
theorem minf (k : Nat) (a b c d : Int) : itv_Min.f (k + 1) a b c d = some (op2 mi (C a b) (C c d)) := by
  unfold itv_Min.f itv_both_itv_Min_1.f op2
  rw [sound1, sound1, Option.bind_some, Option.bind_some]
  generalize C a b = p at *
  generalize C c d = q at *
  unfold itv_None.f
  rw [Option.bind_some, Option.bind_some]
  have jt : itv_both_itv_Min_1.j0 (k + 1) true p.1 p.2 q.1 q.2 = some (1, 0) := rfl
  by_cases h1 : p.1 > p.2
  · rw [decide_eq_true h1, if_pos rfl, jt, if_pos (Or.inl h1), Option.bind_some]
  rw [decide_eq_false h1, if_neg (by decide)]
  by_cases h2 : q.1 > q.2
  · rw [decide_eq_true h2, jt, if_pos (Or.inr h2), Option.bind_some]
  rw [decide_eq_false h2, if_neg (by omega : ¬ (p.1 > p.2 ∨ q.1 > q.2))]
  simp only [itv_both_itv_Min_1.j0]
  unfold itv_Min_1.f mi
  rw [if_neg (by decide), mnm, mnm, of1, Option.bind_some, Option.bind_some, Option.bind_some]
theorem maxf (k : Nat) (a b c d : Int) : itv_Max.f (k + 1) a b c d = some (op2 ma (C a b) (C c d)) := by
  unfold itv_Max.f itv_both_itv_Max_1.f op2
  rw [sound1, sound1, Option.bind_some, Option.bind_some]
  generalize C a b = p at *
  generalize C c d = q at *
  unfold itv_None.f
  rw [Option.bind_some, Option.bind_some]
  have jt : itv_both_itv_Max_1.j0 (k + 1) true p.1 p.2 q.1 q.2 = some (1, 0) := rfl
  by_cases h1 : p.1 > p.2
  · rw [decide_eq_true h1, if_pos rfl, jt, if_pos (Or.inl h1), Option.bind_some]
  rw [decide_eq_false h1, if_neg (by decide)]
  by_cases h2 : q.1 > q.2
  · rw [decide_eq_true h2, jt, if_pos (Or.inr h2), Option.bind_some]
  rw [decide_eq_false h2, if_neg (by omega : ¬ (p.1 > p.2 ∨ q.1 > q.2))]
  simp only [itv_both_itv_Max_1.j0]
  unfold itv_Max_1.f ma
  rw [if_neg (by decide), mxm, mxm, of1, Option.bind_some, Option.bind_some, Option.bind_some]
theorem awG (k : Nat) : gimballaw02_awake.f (k + 12) = some true := by
  induction k with
  | zero => decide +kernel
  | succ k ih => exact gimballaw02_awake.mono (k + 12) true ih
theorem W_op2 {o : Int × Int → Int × Int → Int × Int} (ho : ∀ p q, W p → W (o p q)) {p q : Int × Int} (hp : W p) : W (op2 o p q) := by
  unfold op2
  split
  · exact Or.inl ⟨rfl, rfl⟩
  · exact ho _ _ hp
theorem W_MD {p q : Int × Int} (hp : W p) : W (MD p q) := by
  unfold MD
  split
  · exact Or.inl ⟨rfl, rfl⟩
  · split
    · exact hp
    · split <;> exact W_C _ _
theorem W_ab {p : Int × Int} (hp : W p) : W (ab p) := by
  unfold ab
  split
  · exact hp
  · split <;> exact W_C _ _
theorem DD_op (p q : Int × Int) : DD p q = op2 DV p q := rfl
theorem MM_op (p q : Int × Int) : MM p q = op2 MD p q := rfl
theorem two_leq (x y : Int × Int) (hx : W x) (hy : W y) : itv_Leq.f x.1 x.2 y.1 y.2 = some (leq x y) := by rw [leqf, C_W hx, C_W hy]
theorem grows0 {a b c d : Int} {r s : Int × Int} (hr : W r) (hs : W s) (h1 : leq (C a b) r = true) (h2 : leq (C c d) s = true) : gimballaw02_ItvGrows.j0 24 false a b c d r.1 r.2 s.1 s.2 = some true := by
  have hp := W_C a b
  have hq := W_C c d
  have er := C_W hr
  have es := C_W hs
  have wo2 : ∀ (o : Int × Int → Int × Int → Int × Int), (∀ p q, W p → W (o p q)) → ∀ p q, W p → W (op2 o p q) := fun o ho p q h => W_op2 ho h
  have wad := wo2 ad (fun _ _ _ => W_C _ _)
  have wmu := wo2 mu (fun _ _ _ => W_hl _ _ _ _)
  have wdv := wo2 DV (fun _ _ _ => W_jn (W_dq _ _) (W_dq _ _))
  have wmd := wo2 MD (fun _ _ h => W_MD h)
  have wmi := wo2 mi (fun _ _ _ => W_C _ _)
  have wma := wo2 ma (fun _ _ _ => W_C _ _)
  have l1 := op2_mono ad_mono hp hq hr hs h1 h2
  have l2 := op2_mono ad_mono hp (W_ne hq) hr (W_ne hs) h1 (ne_mono hq hs h2)
  have l3 := op2_mono mu_mono hp hq hr hs h1 h2
  have l4 := op2_mono DV_mono hp hq hr hs h1 h2
  have l5 := op2_mono MD_mono hp hq hr hs h1 h2
  have l6 := ne_mono hp hr h1
  have l7 := ab_mono hp hr h1
  have l8 := op2_mono mi_mono hp hq hr hs h1 h2
  have l9 := op2_mono ma_mono hp hq hr hs h1 h2
  have l10 : leq (me (C a b) (C c d)) (me r s) = true := me_mono h1 h2
  simp only [gimballaw02_ItvGrows.j0]
  rw [if_neg (by decide)]
  rw [addf 22, Option.bind_some, addf 22, Option.bind_some, er, es, two_leq _ _ (wad _ _ hp) (wad _ _ hr), l1, Option.bind_some, if_pos rfl]
  rw [subf 22, Option.bind_some, subf 22, Option.bind_some, er, es, two_leq _ _ (wad _ _ hp) (wad _ _ hr), l2, Option.bind_some, if_pos rfl]
  rw [mulf 20, Option.bind_some, mulf 20, Option.bind_some, er, es, two_leq _ _ (wmu _ _ hp) (wmu _ _ hr), l3, Option.bind_some, if_pos rfl]
  rw [divf 21, Option.bind_some, divf 21, Option.bind_some, er, es, DD_op, DD_op, two_leq _ _ (wdv _ _ hp) (wdv _ _ hr), l4, Option.bind_some, if_pos rfl]
  rw [modf 20, Option.bind_some, modf 20, Option.bind_some, er, es, MM_op, MM_op, two_leq _ _ (wmd _ _ hp) (wmd _ _ hr), l5, Option.bind_some, if_pos rfl]
  rw [negf', Option.bind_some, negf', Option.bind_some, er, two_leq _ _ (W_ne hp) (W_ne hr), l6, Option.bind_some, if_pos rfl]
  rw [absf' 22, Option.bind_some, absf' 22, Option.bind_some, er, two_leq _ _ (W_ab hp) (W_ab hr), l7, Option.bind_some, if_pos rfl]
  rw [minf 22, Option.bind_some, minf 22, Option.bind_some, er, es, two_leq _ _ (wmi _ _ hp) (wmi _ _ hr), l8, Option.bind_some, if_pos rfl]
  rw [maxf 22, Option.bind_some, maxf 22, Option.bind_some, er, es, two_leq _ _ (wma _ _ hp) (wma _ _ hr), l9, Option.bind_some, if_pos rfl]
  rw [meetf 22, Option.bind_some, meetf 22, Option.bind_some, er, es, two_leq _ _ (W_me hp hq) (W_me hr hs), l10, Option.bind_some, if_pos rfl, awG 11, Option.bind_some]
theorem W_tcG (op : Int) {p q : Int × Int} (hp : S p) (hq : S q) : W (tc op p q).1 ∧ W (tc op p q).2 := by
  have wl : ∀ g, ∀ u v : Int × Int, S u → W (low g u v) := by
    intro g u v h
    unfold low
    split
    · exact W_C _ _
    · exact Or.inr h
  have wh : ∀ g, ∀ u v : Int × Int, S u → W (high g u v) := by
    intro g u v h
    unfold high
    split
    · exact W_C _ _
    · exact Or.inr h
  have ww : ∀ u v : Int × Int, S u → W (wo u v) := by
    intro u v h
    unfold wo
    (repeat' split) <;> first | exact W_C _ _ | exact Or.inr h
  unfold tc
  (repeat' split)
  · exact ⟨W_C _ _, W_C _ _⟩
  · exact ⟨ww _ _ hp, ww _ _ hq⟩
  · exact ⟨wh _ _ _ hp, wl _ _ _ hq⟩
  · exact ⟨wh _ _ _ hp, wl _ _ _ hq⟩
  · exact ⟨wl _ _ _ hp, wh _ _ _ hq⟩
  · exact ⟨wl _ _ _ hp, wh _ _ _ hq⟩
theorem W_TT (op : Int) (ho : 14 ≤ op ∧ op ≤ 19) {p q : Int × Int} (hp : W p) (hq : W q) : W (t1 (TT op p q)) ∧ W (t2 (TT op p q)) := by
  by_cases g : p.1 > p.2 ∨ q.1 > q.2
  · rw [TT_none' op ho g]; exact ⟨Or.inl ⟨rfl, rfl⟩, Or.inl ⟨rfl, rfl⟩⟩
  · have sp := S_W hp (fun x => g (Or.inl x))
    have sq := S_W hq (fun x => g (Or.inr x))
    rw [TT_S op ho sp sq]
    split
    · exact W_tcG op sp sq
    · exact ⟨Or.inl ⟨rfl, rfl⟩, Or.inl ⟨rfl, rfl⟩⟩
end Go.Proofs.Ytbbnpipmjadpoaa.M
namespace Go.Proofs.Ytbbnpipmjadpoaa.Pure
open Go Go.RowKit Go.Proofs.Ytbbnpipmjadpoaa.P Go.Proofs.YtbbnpipmjadpoaaW.PrintWords Go.Proofs.YtbbnpipmjadpoaaW.PrintMore Go.Proofs.Ytbbnpipmjadpoaa.M
theorem ItvGrows : gimballaw02_ItvGrows.Pure := by
  intro a b c d e f g h n _ _ _ _ _ _ _ _ _
  refine ⟨24, ?_⟩
  unfold gimballaw02_ItvGrows.f
  have hn : 0 ≤ IntKind.u64.wrap n := by rw [IntKind.wrap_u64]; omega
  have m1 : 0 ≤ Int.tmod (IntKind.u64.wrap n) 6 := Int.tmod_nonneg _ hn
  have m2 : Int.tmod (IntKind.u64.wrap n) 6 < 6 := Int.tmod_lt_of_pos _ (by omega)
  rw [w64 (x := Int.tmod (IntKind.u64.wrap n) 6) (by omega) (by omega), w64 (x := 14 + Int.tmod (IntKind.u64.wrap n) 6) (by omega) (by omega)]
  have hop : 14 ≤ 14 + Int.tmod (IntKind.u64.wrap n) 6 ∧ 14 + Int.tmod (IntKind.u64.wrap n) 6 ≤ 19 := by omega
  generalize 14 + Int.tmod (IntKind.u64.wrap n) 6 = op at *
  have hp := W_C a b
  have hq := W_C c d
  have hr := W_jn hp (W_C e f)
  have hs := W_jn hq (W_C g h)
  have h1 : leq (C a b) (jn (C a b) (C e f)) = true := leq_jn1
  have h2 : leq (C c d) (jn (C c d) (C g h)) = true := leq_jn1
  rw [joinf, Option.bind_some, joinf, Option.bind_some]
  generalize jn (C a b) (C e f) = r at *
  generalize jn (C c d) (C g h) = s at *
  have er := C_W hr
  have es := C_W hs
  have g0 := grows0 hr hs h1 h2
  rw [test1 17, Option.bind_some, test1 17, Option.bind_some, holds1 15, Option.bind_some, holds1 15, Option.bind_some, er, es]
  rw [leqf, er, h1, Option.bind_some, if_pos rfl, leqf, es, h2, Option.bind_some, if_pos rfl]
  obtain ⟨k1, k2⟩ := TT_mono op hop hp hq hr hs h1 h2
  obtain ⟨w1, w2⟩ := W_TT op hop hp hq
  obtain ⟨w3, w4⟩ := W_TT op hop hr hs
  have f1 : itv_Leq.f (TT op (C a b) (C c d)).1 (TT op (C a b) (C c d)).2.1 (TT op r s).1 (TT op r s).2.1 = some true := (two_leq _ _ w1 w3).trans (by rw [k1])
  have f2 : itv_Leq.f (TT op (C a b) (C c d)).2.2.1 (TT op (C a b) (C c d)).2.2.2 (TT op r s).2.2.1 (TT op r s).2.2.2 = some true := (two_leq _ _ w2 w4).trans (by rw [k2])
  rw [f1, Option.bind_some, if_pos rfl, f2, Option.bind_some, if_pos rfl]
  obtain ⟨m3, m4⟩ := HH_mono op hop hp hq hr hs h1 h2
  have tail : (if (HH op (C a b) (C c d)).2 = true then gimballaw02_ItvGrows.j0 24 (!(HH op r s).2) a b c d r.1 r.2 s.1 s.2 else gimballaw02_ItvGrows.j0 24 false a b c d r.1 r.2 s.1 s.2) = some true := by
    by_cases y : (HH op (C a b) (C c d)).2 = true
    · rw [if_pos y, m4 y]; exact g0
    · rw [if_neg y]; exact g0
  by_cases y : (HH op (C a b) (C c d)).1 = true
  · rw [if_pos y, if_pos (m3 y)]; exact tail
  · rw [if_neg y]; exact tail
end Go.Proofs.Ytbbnpipmjadpoaa.Pure
