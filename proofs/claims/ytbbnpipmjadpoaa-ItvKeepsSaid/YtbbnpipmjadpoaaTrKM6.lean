/- What the law's proof needs of M6. -/
import Derived.Test.YtbbnpipmjadpoaaTrKM5
namespace Go.Proofs.Ytbbnpipmjadpoaa.M
open Go Go.RowKit Go.Proofs.Ytbbnpipmjadpoaa.P Go.Proofs.YtbbnpipmjadpoaaW.PrintWords Go.Proofs.YtbbnpipmjadpoaaW.PrintMore
theorem S_W {p : Int × Int} (h : W p) (hn : ¬ p.1 > p.2) : S p := by
  rcases h with ⟨h1, h2⟩ | h
  · exfalso; omega
  · exact h
theorem modj1 (k : Nat) (p q : Int × Int) (ht : 0 ≤ top q ∧ top q ≤ 4611686018427387904) : itv_Mod_1.j1 (k + 1) (top q) p.1 p.2 = some (C (if p.1 < 0 then max p.1 (-(top q)) else 0) (if p.2 > 0 then min p.2 (top q) else 0)) := by
  simp only [itv_Mod_1.j1]
  rw [w64 (by omega) (by omega), mxm, mnm, of1, of1, of1, of1]
  by_cases h1 : p.1 < 0
  · rw [if_pos h1, if_pos h1]
    by_cases h2 : p.2 > 0
    · rw [if_pos h2, if_pos h2, Option.bind_some]
    · rw [if_neg h2, if_neg h2, Option.bind_some]
  · rw [if_neg h1, if_neg h1]
    by_cases h2 : p.2 > 0
    · rw [if_pos h2, if_pos h2, Option.bind_some]
    · rw [if_neg h2, if_neg h2, Option.bind_some]
theorem mod1f (k : Nat) {p q : Int × Int} (hp : S p) (hq : W q) : itv_Mod_1.f (k + 2) p.1 p.2 q.1 q.2 = some (MD p q) := by
  unfold itv_Mod_1.f MD itv_Empty.f
  rw [sizesf (k + 1) hq, Option.bind_some]
  by_cases hb : (ng q).1 > (ng q).2 ∧ (ps q).1 > (ps q).2
  · rw [if_pos hb, if_pos hb]
    rfl
  rw [if_neg hb, if_neg hb]
  obtain ⟨z1, z2, z3, z4⟩ := szn_pos hq hb
  have hp' := hp
  unfold S at hp'
  dsimp only
  rw [if_pos rfl, absf (k + 1) (Or.inr hp), Option.bind_some]
  by_cases h1 : (ab p).2 < szn q
  · rw [if_pos h1, if_pos ((ab_lt hp z1).mp h1)]
  rw [if_neg h1, if_neg (fun x => h1 ((ab_lt hp z1).mpr x)), singlef (k + 1) hq hb, Option.bind_some]
  have ht : (if szm q < 4611686018427387904 then itv_Mod_1.j1 (k + 1) (wrap64 (szm q - 1)) p.1 p.2 else itv_Mod_1.j1 (k + 1) 4611686018427387904 p.1 p.2) = itv_Mod_1.j1 (k + 1) (top q) p.1 p.2 := by
    unfold top
    by_cases g : szm q < 4611686018427387904
    · rw [if_pos g, if_pos g, w64 (by omega) (by omega)]
    · rw [if_neg g, if_neg g]
  have hf : ∀ y, itv_Mod_1.j0 (k + 2) (szm q) y false p.1 p.2 = some (C (if p.1 < 0 then max p.1 (-(top q)) else 0) (if p.2 > 0 then min p.2 (top q) else 0)) := by
    intro y
    simp only [itv_Mod_1.j0]
    rw [if_neg (by decide), ht, modj1 k p q (by unfold top; split <;> omega)]
  by_cases h2 : onz q = true
  · rw [if_pos h2]
    dsimp only
    rw [if_pos rfl]
    by_cases h3 : p.1 > -4611686018427387904
    · rw [if_pos h3]
      by_cases h4 : p.2 < 4611686018427387904
      · rw [if_pos h4]
        have hy : yy q ≠ 0 := by unfold yy; split <;> omega
        rw [if_neg hy, tdw (by omega) (by omega), tdw (by omega) (by omega)]
        have e1 : (Int.tdiv p.1 (yy q) = Int.tdiv p.2 (yy q)) ↔ (Int.tdiv p.1 (szn q) = Int.tdiv p.2 (szn q)) := by
          unfold yy
          split
          · rw [Int.tdiv_neg, Int.tdiv_neg]; omega
          · exact Iff.rfl
        have e2 : ∀ x, Int.tmod x (yy q) = Int.tmod x (szn q) := by
          intro x
          unfold yy
          split
          · rw [Int.tmod_neg]
          · rfl
        by_cases h5 : Int.tdiv p.1 (szn q) = Int.tdiv p.2 (szn q)
        · rw [e1.mpr h5, beq_self_eq_true, if_pos ⟨h2, h3, h4, h5⟩]
          simp only [itv_Mod_1.j0]
          rw [if_pos trivial, if_neg hy, of1, Option.bind_some, e2, e2]
        · rw [beq_eq_false_iff_ne.mpr (fun x => h5 (e1.mp x)), hf, if_neg (show ¬ (onz q = true ∧ p.1 > -4611686018427387904 ∧ p.2 < 4611686018427387904 ∧ Int.tdiv p.1 (szn q) = Int.tdiv p.2 (szn q)) from fun x => h5 x.2.2.2)]
      · rw [if_neg h4, hf, if_neg (show ¬ (onz q = true ∧ p.1 > -4611686018427387904 ∧ p.2 < 4611686018427387904 ∧ Int.tdiv p.1 (szn q) = Int.tdiv p.2 (szn q)) from fun x => h4 x.2.2.1)]
    · rw [if_neg h3, hf, if_neg (show ¬ (onz q = true ∧ p.1 > -4611686018427387904 ∧ p.2 < 4611686018427387904 ∧ Int.tdiv p.1 (szn q) = Int.tdiv p.2 (szn q)) from fun x => h3 x.2.1)]
  · rw [if_neg h2]
    dsimp only
    rw [if_neg (by decide), hf, if_neg (show ¬ (onz q = true ∧ p.1 > -4611686018427387904 ∧ p.2 < 4611686018427387904 ∧ Int.tdiv p.1 (szn q) = Int.tdiv p.2 (szn q)) from fun x => h2 x.1)]
def MM (p q : Int × Int) : Int × Int := if p.1 > p.2 ∨ q.1 > q.2 then (1, 0) else MD p q
theorem modf (k : Nat) (a b c d : Int) : itv_Mod.f (k + 3) a b c d = some (MM (C a b) (C c d)) := by
  unfold itv_Mod.f itv_both_itv_Mod_1.f MM
  rw [sound1, sound1, Option.bind_some, Option.bind_some]
  have hp := W_C a b
  have hq := W_C c d
  generalize C a b = p at *
  generalize C c d = q at *
  unfold itv_None.f
  rw [Option.bind_some, Option.bind_some]
  have jt : itv_both_itv_Mod_1.j0 (k + 3) true p.1 p.2 q.1 q.2 = some (1, 0) := rfl
  by_cases h1 : p.1 > p.2
  · rw [decide_eq_true h1, if_pos rfl, jt, if_pos (Or.inl h1), Option.bind_some]
  rw [decide_eq_false h1, if_neg (by decide)]
  by_cases h2 : q.1 > q.2
  · rw [decide_eq_true h2, jt, if_pos (Or.inr h2), Option.bind_some]
  rw [decide_eq_false h2, if_neg (by omega : ¬ (p.1 > p.2 ∨ q.1 > q.2))]
  simp only [itv_both_itv_Mod_1.j0]
  have sp := S_W hp h1
  rw [if_neg (by decide), mod1f k sp hq, Option.bind_some, Option.bind_some]
end Go.Proofs.Ytbbnpipmjadpoaa.M
