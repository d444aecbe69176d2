/- What the law's proof needs of M5. -/
import Derived.Test.YtbbnpipmjadpoaaTrJM4
import Derived.Test.YtbbnpipmjadpoaaTrJU2
import Derived.Test.YtbbnpipmjadpoaaTrJU
import Derived.Test.YtbbnpipmjadpoaaTrJPx0
import Derived.Test.YtbbnpipmjadpoaaTrJPx2
import Derived.Test.YtbbnpipmjadpoaaTrJPx3
import Derived.Test.YtbbnpipmjadpoaaTrJPx35
import Derived.Test.YtbbnpipmjadpoaaTrJPx32
import Derived.Test.YtbbnpipmjadpoaaTrJPx34
namespace Go.Proofs.Ytbbnpipmjadpoaa.M
open Go Go.RowKit Go.Proofs.Ytbbnpipmjadpoaa.P Go.Proofs.YtbbnpipmjadpoaaW.PrintWords Go.Proofs.YtbbnpipmjadpoaaW.PrintMore
def fitm (a : Int) : Int := min (max a (-4611686018427387904)) 4611686018427387904
theorem fitf (a : Int) : bound_Fit.f a = some (fitm a) := by unfold bound_Fit.f fitm; rw [mnm, mxm]
theorem fitm_le (a : Int) : -4611686018427387904 ≤ fitm a ∧ fitm a ≤ 4611686018427387904 := by unfold fitm; omega
theorem fitm_id {a : Int} (h1 : -4611686018427387904 ≤ a) (h2 : a ≤ 4611686018427387904) : fitm a = a := by unfold fitm; omega
/-- a bound's quotient by a bound -/
def dv (a b : Int) : Int :=
  if fitm b = 0 ∨ fitm b = 4611686018427387904 ∨ fitm b = -4611686018427387904 ∨ fitm a = 0 then 0
  else if fitm a = 4611686018427387904 ∨ fitm a = -4611686018427387904 then (if (decide (fitm a < 0) == decide (fitm b < 0)) = true then 4611686018427387904 else -4611686018427387904)
  else wrap64 (Int.tdiv (fitm a) (fitm b))
theorem kind0 {x : Int} (h1 : -4611686018427387904 < x) (h2 : x < 4611686018427387904) : bound_kind.f x = some 0 := by
  unfold bound_kind.f
  rw [if_neg (by omega), if_neg (by omega)]
theorem kind1 {x : Int} (h : x = 4611686018427387904 ∨ x = -4611686018427387904) : ∃ t, bound_kind.f x = some t ∧ t ≠ 0 := by
  unfold bound_kind.f
  rcases h with h | h
  · rw [if_pos (by omega)]; exact ⟨1, rfl, by decide⟩
  · rw [if_neg (by omega), if_pos (by omega)]; exact ⟨-1, rfl, by decide⟩
theorem dvf (k : Nat) (a b : Int) : bound_Div.f (k + 1) a b = some (dv a b) := by
  unfold bound_Div.f dv
  rw [fitf, fitf, Option.bind_some, Option.bind_some]
  obtain ⟨hx1, hx2⟩ := fitm_le a
  obtain ⟨hy1, hy2⟩ := fitm_le b
  generalize fitm a = x at *
  generalize fitm b = y at *
  have jt : bound_Div.j0 (k + 1) x y true = some 0 := rfl
  by_cases h0 : y = 0
  · rw [if_pos h0, if_pos (Or.inl h0), jt]
  rw [if_neg h0]
  by_cases h1 : y = 4611686018427387904 ∨ y = -4611686018427387904
  · obtain ⟨t, ht, hn⟩ := kind1 h1
    rw [ht, Option.bind_some, if_pos (by omega), bne_iff_ne.mpr hn, jt]
  rw [kind0 (by omega) (by omega), Option.bind_some]
  simp only [bound_Div.j0]
  rw [if_neg (by decide)]
  by_cases h2 : x = 0
  · rw [if_pos h2, if_pos (by omega)]
  rw [if_neg h2, if_neg (by omega : ¬ (y = 0 ∨ y = 4611686018427387904 ∨ y = -4611686018427387904 ∨ x = 0))]
  by_cases h3 : x = 4611686018427387904 ∨ x = -4611686018427387904
  · obtain ⟨t, ht, hn⟩ := kind1 h3
    rw [ht, Option.bind_some, if_neg hn, if_pos h3]
    by_cases h4 : (decide (x < 0) == decide (y < 0)) = true
    · rw [if_pos h4, if_pos h4]
    · rw [if_neg h4, if_neg h4]
  · rw [kind0 (by omega) (by omega), Option.bind_some, if_pos rfl, if_neg h0, if_neg h3]
def hl (a b c d : Int) : Int × Int := C (min (min a b) (min c d)) (max (max a b) (max c d))
theorem hlf (a b c d : Int) : itv_hull.f a b c d = some (hl a b c d) := by
  unfold itv_hull.f hl
  have e1 : min (min (min a b) c) d = min (min a b) (min c d) := by omega
  have e2 : max (max (max a b) c) d = max (max a b) (max c d) := by omega
  rw [of1, Option.bind_some, mnm, mnm, mnm, mxm, mxm, mxm, e1, e2]
theorem W_hl (a b c d : Int) : W (hl a b c d) := W_C _ _
/-- what lies below 0, and what lies above -/
def ng (q : Int × Int) : Int × Int := me q (-4611686018427387904, -1)
def ps (q : Int × Int) : Int × Int := me q (1, 4611686018427387904)
theorem W_N : W (-4611686018427387904, -1) := by right; unfold S; decide
theorem W_P : W (1, 4611686018427387904) := by right; unfold S; decide
theorem W_ng {q : Int × Int} (h : W q) : W (ng q) := W_me h W_N
theorem W_ps {q : Int × Int} (h : W q) : W (ps q) := W_me h W_P
theorem CN : C (-4611686018427387904) (-1) = (-4611686018427387904, -1) := rfl
theorem CP : C 1 4611686018427387904 = (1, 4611686018427387904) := rfl
theorem signsf (k : Nat) {q : Int × Int} (h : W q) : itv_signs.f (k + 1) q.1 q.2 = some ((ng q).1, (ng q).2, (ps q).1, (ps q).2) := by
  unfold itv_signs.f ng ps
  rw [of1, Option.bind_some, meetf, Option.bind_some, of1, Option.bind_some, meetf, Option.bind_some, C_two, C_two, C_W h, CN, CP]
theorem jn_E {p : Int × Int} (h : W p) : jn p (1, 0) = p := by
  unfold jn
  unfold W S at h
  apply Prod.ext <;> ((repeat' split) <;> (try dsimp only at *) <;> omega)
theorem E_jn (p : Int × Int) : jn (1, 0) p = p := by unfold jn; rw [if_pos (by decide)]
theorem C_E : C 1 0 = (1, 0) := rfl
def dq (p d : Int × Int) : Int × Int := if d.1 > d.2 then (1, 0) else hl (dv p.1 d.1) (dv p.1 d.2) (dv p.2 d.1) (dv p.2 d.2)
def DV (p q : Int × Int) : Int × Int := jn (dq p (ng q)) (dq p (ps q))
theorem W_dq (p d : Int × Int) : W (dq p d) := by
  unfold dq
  split
  · exact Or.inl ⟨rfl, rfl⟩
  · exact W_hl _ _ _ _
theorem div1f (k : Nat) (p : Int × Int) {q : Int × Int} (h : W q) : itv_Div_1.f (k + 1) p.1 p.2 q.1 q.2 = some (DV p q) := by
  unfold itv_Div_1.f itv_Empty.f DV
  rw [Option.bind_some, signsf k h, Option.bind_some]
  dsimp only
  generalize ng q = n
  generalize ps q = s
  unfold itv_None.f
  rw [Option.bind_some]
  by_cases h1 : n.1 > n.2
  · rw [decide_eq_true h1, if_pos rfl, Option.bind_some]
    have e1 : dq p n = (1, 0) := by unfold dq; rw [if_pos h1]
    rw [e1, E_jn]
    by_cases h2 : s.1 > s.2
    · rw [decide_eq_true h2, if_pos rfl]
      unfold dq; rw [if_pos h2]
    · rw [decide_eq_false h2, if_neg (by decide), dvf, Option.bind_some, dvf, Option.bind_some, dvf, Option.bind_some, dvf, Option.bind_some, hlf, Option.bind_some, joinf, Option.bind_some, C_E, E_jn, C_W (W_hl _ _ _ _)]
      unfold dq; rw [if_neg h2]
  · rw [decide_eq_false h1, if_neg (by decide), dvf, Option.bind_some, dvf, Option.bind_some, dvf, Option.bind_some, dvf, Option.bind_some, hlf, Option.bind_some, joinf, Option.bind_some, C_E, E_jn, C_W (W_hl _ _ _ _), Option.bind_some]
    have e1 : dq p n = hl (dv p.1 n.1) (dv p.1 n.2) (dv p.2 n.1) (dv p.2 n.2) := by unfold dq; rw [if_neg h1]
    rw [e1]
    by_cases h2 : s.1 > s.2
    · rw [decide_eq_true h2, if_pos rfl]
      have e2 : dq p s = (1, 0) := by unfold dq; rw [if_pos h2]
      rw [e2, jn_E (W_hl _ _ _ _)]
    · rw [decide_eq_false h2, if_neg (by decide), dvf, Option.bind_some, dvf, Option.bind_some, dvf, Option.bind_some, dvf, Option.bind_some, hlf, Option.bind_some, joinf, Option.bind_some, C_W (W_hl _ _ _ _), C_W (W_hl _ _ _ _)]
      unfold dq; rw [if_neg h2]
def DD (p q : Int × Int) : Int × Int := if p.1 > p.2 ∨ q.1 > q.2 then (1, 0) else DV p q
theorem divf (k : Nat) (a b c d : Int) : itv_Div.f (k + 2) a b c d = some (DD (C a b) (C c d)) := by
  unfold itv_Div.f itv_both_itv_Div_1.f DD
  rw [sound1, sound1, Option.bind_some, Option.bind_some]
  have hq := W_C c d
  generalize C a b = p
  generalize C c d = q at *
  unfold itv_None.f
  rw [Option.bind_some, Option.bind_some]
  have jt : itv_both_itv_Div_1.j0 (k + 2) true p.1 p.2 q.1 q.2 = some (1, 0) := rfl
  by_cases h1 : p.1 > p.2
  · rw [decide_eq_true h1, if_pos rfl, jt, if_pos (Or.inl h1), Option.bind_some]
  rw [decide_eq_false h1, if_neg (by decide)]
  by_cases h2 : q.1 > q.2
  · rw [decide_eq_true h2, jt, if_pos (Or.inr h2), Option.bind_some]
  rw [decide_eq_false h2, if_neg (by omega : ¬ (p.1 > p.2 ∨ q.1 > q.2))]
  simp only [itv_both_itv_Div_1.j0]
  rw [if_neg (by decide), div1f k p hq, Option.bind_some, Option.bind_some]
/-- the sizes -/
def ab (p : Int × Int) : Int × Int := if p.1 > p.2 ∨ p.1 ≥ 0 then p else if p.2 ≤ 0 then C (-p.2) (-p.1) else C 0 (max (-p.1) p.2)
theorem bnegf {a : Int} (h1 : -4611686018427387904 ≤ a) (h2 : a ≤ 4611686018427387904) : bound_Neg.f a = some (-a) := by
  unfold bound_Neg.f
  rw [fitf, Option.bind_some, fitm_id h1 h2, w64 (by omega) (by omega)]
theorem W_le {p : Int × Int} (h : W p) : -4611686018427387904 ≤ p.1 ∧ p.1 ≤ 4611686018427387904 ∧ -4611686018427387904 ≤ p.2 ∧ p.2 ≤ 4611686018427387904 := by unfold W S at h; omega
theorem negf {p : Int × Int} (h : W p) (hn : ¬ p.1 > p.2) : itv_Neg.f p.1 p.2 = some (C (-p.2) (-p.1)) := by
  obtain ⟨h1, h2, h3, h4⟩ := W_le h
  unfold itv_Neg.f itv_None.f
  rw [sound1, Option.bind_some, Option.bind_some, C_W h, decide_eq_false hn, if_neg (by decide), bnegf h3 h4, Option.bind_some, bnegf h1 h2, Option.bind_some, of1, Option.bind_some]
theorem absf (k : Nat) {p : Int × Int} (h : W p) : itv_Abs.f (k + 1) p.1 p.2 = some (ab p) := by
  obtain ⟨h1, h2, h3, h4⟩ := W_le h
  unfold itv_Abs.f itv_None.f ab
  rw [sound1, Option.bind_some, Option.bind_some, C_W h]
  have jt : itv_Abs.j0 (k + 1) true p.1 p.2 = some p := rfl
  by_cases g1 : p.1 > p.2
  · rw [decide_eq_true g1, if_pos rfl, jt, if_pos (Or.inl g1)]
  rw [decide_eq_false g1, if_neg (by decide)]
  by_cases g2 : p.1 ≥ 0
  · rw [decide_eq_true g2, jt, if_pos (Or.inr g2)]
  rw [decide_eq_false g2, if_neg (by omega : ¬ (p.1 > p.2 ∨ p.1 ≥ 0))]
  simp only [itv_Abs.j0]
  rw [if_neg (by decide)]
  by_cases g3 : p.2 ≤ 0
  · rw [if_pos g3, if_pos g3, negf h g1, Option.bind_some]
  · rw [if_neg g3, if_neg g3, bnegf h1 h2, Option.bind_some, of1, Option.bind_some, mxm]
theorem ng_le {q : Int × Int} (h : ¬ (ng q).1 > (ng q).2) : (ng q).2 ≤ -1 := by
  unfold ng me at *
  dsimp only at *
  split at h
  · exact absurd (by decide) h
  · rename_i g; rw [if_neg g]; dsimp only; omega
theorem ps_ge {q : Int × Int} (h : ¬ (ps q).1 > (ps q).2) : (ps q).1 ≥ 1 := by
  unfold ps me at *
  dsimp only at *
  split at h
  · exact absurd (by decide) h
  · rename_i g; rw [if_neg g]; dsimp only; omega
theorem tdw {x : Int} (h1 : -4611686018427387904 ≤ x) (h2 : x ≤ 4611686018427387904) (y : Int) : wrap64 (Int.tdiv x y) = Int.tdiv x y := by
  have h : (Int.tdiv x y).natAbs ≤ x.natAbs := by rw [Int.natAbs_tdiv]; exact Nat.div_le_self _ _
  exact w64 (by omega) (by omega)
end Go.Proofs.Ytbbnpipmjadpoaa.M
