/- What the law's proof needs of PureItvDivides. -/
import Derived.Test.YtbbnpipmjadpoaaTrDM6
import Derived.Test.YtbbnpipmjadpoaaTrDPx52
namespace Go.Proofs.Ytbbnpipmjadpoaa.M
open Go Go.RowKit Go.Proofs.Ytbbnpipmjadpoaa.P Go.Proofs.YtbbnpipmjadpoaaW.PrintWords Go.Proofs.YtbbnpipmjadpoaaW.PrintMore
theorem fitf2 (a : Int) : gimbalref01_Fit.f a = some (fitm a) := by
  unfold gimbalref01_Fit.f fitm
  (repeat' split) <;> (congr 1; omega)
theorem dvf2 (k : Nat) (a b : Int) : gimbalref01_Div.f (k + 2) a b = some (dv a b) := by
  unfold gimbalref01_Div.f dv
  rw [fitf2, fitf2, Option.bind_some, Option.bind_some]
  generalize fitm a = x
  generalize fitm b = y
  have jt : gimbalref01_Div.j0 (k + 2) x y true = some 0 := rfl
  by_cases h0 : x = 0
  · rw [if_pos h0, jt, if_pos (by omega)]
  rw [if_neg h0]
  by_cases h1 : y = 0
  · rw [if_pos h1, jt, if_pos (by omega)]
  rw [if_neg h1]
  by_cases h2 : y = 4611686018427387904
  · rw [if_pos h2, jt, if_pos (by omega)]
  rw [if_neg h2]
  by_cases h3 : y = -4611686018427387904
  · rw [beq_iff_eq.mpr h3, jt, if_pos (by omega)]
  rw [beq_eq_false_iff_ne.mpr h3, if_neg (by omega : ¬ (y = 0 ∨ y = 4611686018427387904 ∨ y = -4611686018427387904 ∨ x = 0))]
  simp only [gimbalref01_Div.j0]
  rw [if_neg (by decide)]
  have j1t : gimbalref01_Div.j1 (k + 1) x y true = some (if (decide (x < 0) == decide (y < 0)) = true then 4611686018427387904 else -4611686018427387904) := by
    simp only [gimbalref01_Div.j1]
    rw [if_pos trivial]
    by_cases g : (decide (x < 0) == decide (y < 0)) = true
    · rw [if_pos g, if_pos g]
    · rw [if_neg g, if_neg g]
  by_cases h4 : x = 4611686018427387904
  · rw [if_pos h4, j1t, if_pos (Or.inl h4)]
  rw [if_neg h4]
  by_cases h5 : x = -4611686018427387904
  · rw [beq_iff_eq.mpr h5, j1t, if_pos (Or.inr h5)]
  rw [beq_eq_false_iff_ne.mpr h5, if_neg (by omega)]
  simp only [gimbalref01_Div.j1]
  rw [if_neg (by decide), if_neg h1]
theorem hlf2 (k : Nat) (a b c d : Int) : gimbalref02_hull.f (k + 2) a b c d = some (hl a b c d) := by
  unfold gimbalref02_hull.f hl
  rw [lessm, Option.bind_some, lessm, Option.bind_some, lessm, Option.bind_some, morem, Option.bind_some, morem, Option.bind_some, morem, Option.bind_some, of2, Option.bind_some]
theorem joinf2 (k : Nat) (a b c d : Int) : gimbalref02_Join.f (k + 2) a b c d = some (jn (C a b) (C c d)) := by
  unfold gimbalref02_Join.f gimbalref02_None.f jn
  rw [norm2, norm2, Option.bind_some, Option.bind_some, Option.bind_some, Option.bind_some, lessm, morem, Option.bind_some, Option.bind_some]
  generalize C a b = p
  generalize C c d = q
  by_cases h : p.1 > p.2
  · rw [decide_eq_true h, if_pos rfl, if_pos h]
  · rw [decide_eq_false h, if_neg (by decide), if_neg h]
    by_cases h2 : q.1 > q.2
    · rw [decide_eq_true h2, if_pos rfl, if_pos h2]
    · rw [decide_eq_false h2, if_neg (by decide), if_neg h2]
theorem meetf2 (k : Nat) (a b c d : Int) : gimbalref02_Meet.f (k + 3) a b c d = some (me (C a b) (C c d)) := by
  rw [meet2, ← meet1 k, meetf]
theorem negf2 (k : Nat) {p : Int × Int} (h : W p) (hn : ¬ p.1 > p.2) : gimbalref02_Neg.f (k + 2) p.1 p.2 = some (C (-p.2) (-p.1)) := by
  obtain ⟨h1, h2, h3, h4⟩ := W_le h
  unfold gimbalref02_Neg.f gimbalref02_None.f
  rw [norm2, Option.bind_some, Option.bind_some, C_W h, decide_eq_false hn, if_neg (by decide), w64 (by omega) (by omega), w64 (by omega) (by omega), of2, Option.bind_some]
theorem none_E {p : Int × Int} (h : W p) (hn : p.1 > p.2) : p = (1, 0) := by
  unfold W S at h
  apply Prod.ext <;> dsimp only <;> omega
theorem quotf (k : Nat) (p : Int × Int) {d : Int × Int} (h : W d) : gimbalref02_quotients.f (k + 3) p.1 p.2 d.1 d.2 = some (dq p d) := by
  unfold gimbalref02_quotients.f gimbalref02_None.f dq
  rw [Option.bind_some]
  by_cases h1 : d.1 > d.2
  · rw [decide_eq_true h1, if_pos rfl, if_pos h1, none_E h h1]
  · rw [decide_eq_false h1, if_neg (by decide), if_neg h1, dvf2, Option.bind_some, dvf2, Option.bind_some, dvf2, Option.bind_some, dvf2, Option.bind_some, hlf2, Option.bind_some]
theorem me_none {q : Int × Int} (h : q.1 > q.2) (r : Int × Int) : me q r = (1, 0) := by unfold me; rw [if_pos (Or.inl h)]
theorem divf2 (k : Nat) (a b c d : Int) : gimbalref02_Div.f (k + 3) a b c d = some (DD (C a b) (C c d)) := by
  unfold gimbalref02_Div.f gimbalref02_None.f DD
  rw [norm2, Option.bind_some, Option.bind_some]
  have hp := W_C a b
  have hq := W_C c d
  by_cases h1 : (C a b).1 > (C a b).2
  · rw [decide_eq_true h1, if_pos rfl, if_pos (Or.inl h1), none_E hp h1]
  rw [decide_eq_false h1, if_neg (by decide), of2, Option.bind_some, meetf2, Option.bind_some, of2, Option.bind_some, meetf2, Option.bind_some, C_two, C_two, CN, CP]
  show ((gimbalref02_quotients.f (k + 3) (C a b).1 (C a b).2 (ng (C c d)).1 (ng (C c d)).2).bind fun bt1032 => (gimbalref02_quotients.f (k + 3) (C a b).1 (C a b).2 (ps (C c d)).1 (ps (C c d)).2).bind fun bt1034 => (gimbalref02_Join.f (k + 3) bt1032.1 bt1032.2 bt1034.1 bt1034.2).bind fun bt1036 => some (bt1036.1, bt1036.2)) = _
  rw [quotf k _ (W_ng hq), Option.bind_some, quotf k _ (W_ps hq), Option.bind_some, joinf2, Option.bind_some, C_W (W_dq _ _), C_W (W_dq _ _)]
  by_cases h2 : (C c d).1 > (C c d).2
  · rw [if_pos (Or.inr h2)]
    have e1 : dq (C a b) (ng (C c d)) = (1, 0) := by unfold ng dq; rw [me_none h2, if_pos (by decide)]
    have e2 : dq (C a b) (ps (C c d)) = (1, 0) := by unfold ps dq; rw [me_none h2, if_pos (by decide)]
    rw [e1, e2]; rfl
  · rw [if_neg (by omega : ¬ ((C a b).1 > (C a b).2 ∨ (C c d).1 > (C c d).2))]
    rfl
theorem rj4f (k : Nat) {p q : Int × Int} (hb : ¬ ((ng q).1 > (ng q).2 ∧ (ps q).1 > (ps q).2)) (hq : W q) : gimbalref02_Mod.j4 (k + 5) (szn q) (szm q) false p.1 p.2 = some (C (if p.1 < 0 then max p.1 (-(top q)) else 0) (if p.2 > 0 then min p.2 (top q) else 0)) := by
  obtain ⟨z1, z2, z3, z4⟩ := szn_pos hq hb
  have ht : (if szm q < 4611686018427387904 then gimbalref02_Mod.j5 (k + 4) 0 0 (wrap64 (szm q - 1)) p.1 p.2 else gimbalref02_Mod.j5 (k + 4) 0 0 (szm q) p.1 p.2) = gimbalref02_Mod.j5 (k + 4) 0 0 (top q) p.1 p.2 := by
    unfold top
    by_cases g : szm q < 4611686018427387904
    · rw [if_pos g, if_pos g, w64 (by omega) (by omega)]
    · rw [if_neg g, if_neg g, show szm q = 4611686018427387904 by omega]
  have t1 : 0 ≤ top q ∧ top q ≤ 4611686018427387904 := by unfold top; split <;> omega
  simp only [gimbalref02_Mod.j4]
  rw [if_neg (by decide), ht]
  simp only [gimbalref02_Mod.j5]
  have j6 : ∀ x, gimbalref02_Mod.j6 (k + 3) x 0 (top q) p.1 p.2 = some (C x (if p.2 > 0 then min p.2 (top q) else 0)) := by
    intro x
    simp only [gimbalref02_Mod.j6]
    rw [lessm, Option.bind_some, of2, of2]
    by_cases g : p.2 > 0
    · rw [if_pos g, if_pos g, Option.bind_some]
    · rw [if_neg g, if_neg g, Option.bind_some]
  rw [morem, Option.bind_some, j6, j6, w64 (by omega) (by omega)]
  by_cases g : p.1 < 0
  · rw [if_pos g, if_pos g]
  · rw [if_neg g, if_neg g]
theorem rj3f (k : Nat) {p q : Int × Int} (hp : S p) (hq : W q) (hb : ¬ ((ng q).1 > (ng q).2 ∧ (ps q).1 > (ps q).2)) (h1 : ¬ (p.1 > -(szn q) ∧ p.2 < szn q)) : gimbalref02_Mod.j3 (k + 6) (szn q) (szm q) false p.1 p.2 (ng q).1 (ng q).2 (ps q).1 (ps q).2 = some (MD p q) := by
  obtain ⟨z1, z2, z3, z4⟩ := szn_pos hq hb
  have h4 := rj4f (p := p) k hb hq
  unfold S at hp
  unfold MD
  rw [if_neg hb, if_neg h1]
  simp only [gimbalref02_Mod.j3]
  rw [if_neg (by decide)]
  unfold gimbalref02_None.f
  rw [Option.bind_some, Option.bind_some, tdw (by omega) (by omega), tdw (by omega) (by omega)]
  have key : ((ng q).1 > (ng q).2 ∨ (ps q).1 > (ps q).2) → (if szn q = szm q then (if p.1 > -4611686018427387904 then (if p.2 < 4611686018427387904 then (if szn q = 0 then none else gimbalref02_Mod.j4 (k + 5) (szn q) (szm q) (Int.tdiv p.1 (szn q) == Int.tdiv p.2 (szn q)) p.1 p.2) else gimbalref02_Mod.j4 (k + 5) (szn q) (szm q) false p.1 p.2) else gimbalref02_Mod.j4 (k + 5) (szn q) (szm q) false p.1 p.2) else gimbalref02_Mod.j4 (k + 5) (szn q) (szm q) false p.1 p.2) = some (if onz q = true ∧ p.1 > -4611686018427387904 ∧ p.2 < 4611686018427387904 ∧ Int.tdiv p.1 (szn q) = Int.tdiv p.2 (szn q) then C (Int.tmod p.1 (szn q)) (Int.tmod p.2 (szn q)) else C (if p.1 < 0 then max p.1 (-(top q)) else 0) (if p.2 > 0 then min p.2 (top q) else 0)) := by
    intro hs
    by_cases g1 : szn q = szm q
    · have ho : onz q = true := decide_eq_true ⟨hs, g1⟩
      rw [if_pos g1]
      by_cases g2 : p.1 > -4611686018427387904
      · rw [if_pos g2]
        by_cases g3 : p.2 < 4611686018427387904
        · rw [if_pos g3, if_neg (by omega)]
          by_cases g4 : Int.tdiv p.1 (szn q) = Int.tdiv p.2 (szn q)
          · rw [beq_iff_eq.mpr g4, if_pos ⟨ho, g2, g3, g4⟩]
            simp only [gimbalref02_Mod.j4]
            rw [if_pos trivial, if_neg (by omega), of2, Option.bind_some]
          · rw [beq_eq_false_iff_ne.mpr g4, h4, if_neg (show ¬ (onz q = true ∧ p.1 > -4611686018427387904 ∧ p.2 < 4611686018427387904 ∧ Int.tdiv p.1 (szn q) = Int.tdiv p.2 (szn q)) from fun x => g4 x.2.2.2)]
        · rw [if_neg g3, h4, if_neg (show ¬ (onz q = true ∧ p.1 > -4611686018427387904 ∧ p.2 < 4611686018427387904 ∧ Int.tdiv p.1 (szn q) = Int.tdiv p.2 (szn q)) from fun x => g3 x.2.2.1)]
      · rw [if_neg g2, h4, if_neg (show ¬ (onz q = true ∧ p.1 > -4611686018427387904 ∧ p.2 < 4611686018427387904 ∧ Int.tdiv p.1 (szn q) = Int.tdiv p.2 (szn q)) from fun x => g2 x.2.1)]
    · have ho : ¬ onz q = true := by intro x; exact g1 (of_decide_eq_true x).2
      rw [if_neg g1, h4, if_neg (show ¬ (onz q = true ∧ p.1 > -4611686018427387904 ∧ p.2 < 4611686018427387904 ∧ Int.tdiv p.1 (szn q) = Int.tdiv p.2 (szn q)) from fun x => ho x.1)]
  by_cases g1 : (ng q).1 > (ng q).2
  · rw [decide_eq_true g1, if_pos rfl]
    exact key (Or.inl g1)
  · rw [decide_eq_false g1, if_neg (by decide)]
    by_cases g2 : (ps q).1 > (ps q).2
    · rw [decide_eq_true g2, if_pos rfl]
      exact key (Or.inr g2)
    · have ho : ¬ onz q = true := by intro x; have := (of_decide_eq_true x).1; omega
      rw [decide_eq_false g2, if_neg (by decide), h4, if_neg (show ¬ (onz q = true ∧ p.1 > -4611686018427387904 ∧ p.2 < 4611686018427387904 ∧ Int.tdiv p.1 (szn q) = Int.tdiv p.2 (szn q)) from fun x => ho x.1)]
theorem rj2f (k : Nat) {p q : Int × Int} (hp : S p) (hq : W q) (hb : ¬ ((ng q).1 > (ng q).2 ∧ (ps q).1 > (ps q).2)) : gimbalref02_Mod.j2 (k + 7) (szn q) (szm q) p.1 p.2 (ng q).1 (ng q).2 (ps q).1 (ps q).2 = some (MD p q) := by
  obtain ⟨z1, z2, z3, z4⟩ := szn_pos hq hb
  simp only [gimbalref02_Mod.j2]
  rw [w64 (by omega) (by omega)]
  by_cases g1 : p.1 > -(szn q)
  · rw [if_pos g1]
    by_cases g2 : p.2 < szn q
    · rw [decide_eq_true g2]
      simp only [gimbalref02_Mod.j3]
      unfold MD
      rw [if_pos trivial, if_neg hb, if_pos ⟨g1, g2⟩]
    · rw [decide_eq_false g2, rj3f k hp hq hb (fun x => g2 x.2)]
  · rw [if_neg g1, rj3f k hp hq hb (fun x => g1 x.1)]
theorem rj0f (k : Nat) {p q : Int × Int} (hp : S p) (hq : W q) (hb : ¬ ((ng q).1 > (ng q).2 ∧ (ps q).1 > (ps q).2)) : gimbalref02_Mod.j0 (k + 9) false p.1 p.2 (ng q).1 (ng q).2 (ps q).1 (ps q).2 = some (MD p q) := by
  have hn := W_ng hq
  have hs := W_ps hq
  obtain ⟨n1, n2, n3, n4⟩ := W_le hn
  obtain ⟨s1, s2, s3, s4⟩ := W_le hs
  have hz := rj2f k hp hq hb
  simp only [gimbalref02_Mod.j0]
  rw [if_neg (by decide)]
  unfold gimbalref02_None.f
  by_cases g1 : (ng q).1 > (ng q).2
  · have g2 : ¬ (ps q).1 > (ps q).2 := fun x => hb ⟨g1, x⟩
    have en : gimbalref02_Neg.f (k + 8) (ng q).1 (ng q).2 = some (ng q) := by
      unfold gimbalref02_Neg.f gimbalref02_None.f
      rw [norm2, Option.bind_some, Option.bind_some, C_W hn, decide_eq_true g1, if_pos rfl]
    rw [en, Option.bind_some, joinf2, Option.bind_some, Option.bind_some, C_W hn, C_W hs, decide_eq_true g1, if_pos rfl]
    have e : jn (ng q) (ps q) = ps q := by unfold jn; rw [if_pos g1]
    rw [e]
    simp only [gimbalref02_Mod.j1]
    rw [if_neg (by decide)]
    have e1 : (ps q).1 = szn q := by unfold szn; rw [if_pos g1]
    have e2 : (ps q).2 = szm q := by unfold szm; rw [if_pos g1]
    calc _ = gimbalref02_Mod.j2 (k + 7) (szn q) (szm q) p.1 p.2 (ng q).1 (ng q).2 (ps q).1 (ps q).2 := by rw [← e1, ← e2]
      _ = _ := hz
  · have := ng_le g1
    have sn : S (-(ng q).2, -(ng q).1) := by unfold W S at *; dsimp only; omega
    have en : C (-(ng q).2) (-(ng q).1) = (-(ng q).2, -(ng q).1) := C_S sn
    rw [negf2 _ hn g1, Option.bind_some, joinf2, Option.bind_some, Option.bind_some, C_two, en, C_W hs, decide_eq_false g1, if_neg (by decide), Option.bind_some]
    have gn : ¬ (-(ng q).2 > -(ng q).1) := by omega
    by_cases g2 : (ps q).1 > (ps q).2
    · have e : jn (-(ng q).2, -(ng q).1) (ps q) = (-(ng q).2, -(ng q).1) := by unfold jn; rw [if_neg gn, if_pos g2]
      rw [e, decide_eq_true g2]
      simp only [gimbalref02_Mod.j1, Bool.not_true]
      rw [if_neg (by decide)]
      have e1 : -(ng q).2 = szn q := by unfold szn; rw [if_neg g1, if_pos g2]
      have e2 : -(ng q).1 = szm q := by unfold szm; rw [if_neg g1, if_pos g2]
      rw [e1, e2]
      exact hz
    · rw [decide_eq_false g2]
      simp only [gimbalref02_Mod.j1, Bool.not_false]
      rw [if_pos trivial, w64 (by omega) (by omega), w64 (by omega) (by omega), lessm, Option.bind_some, morem, Option.bind_some]
      have e1 : min (-(ng q).2) (ps q).1 = szn q := by unfold szn; rw [if_neg g1, if_neg g2]
      have e2 : max (-(ng q).1) (ps q).2 = szm q := by unfold szm; rw [if_neg g1, if_neg g2]
      rw [e1, e2]
      exact hz
theorem modf2 (k : Nat) (a b c d : Int) : gimbalref02_Mod.f (k + 9) a b c d = some (MM (C a b) (C c d)) := by
  have hp := W_C a b
  have hq := W_C c d
  unfold gimbalref02_Mod.f MM
  rw [norm2, Option.bind_some, of2, Option.bind_some, meetf2, Option.bind_some, of2, Option.bind_some, meetf2, Option.bind_some, C_two, C_two, CN, CP]
  have en : me (C c d) (-4611686018427387904, -1) = ng (C c d) := rfl
  have es : me (C c d) (1, 4611686018427387904) = ps (C c d) := rfl
  rw [en, es]
  unfold gimbalref02_None.f
  rw [Option.bind_some, Option.bind_some, Option.bind_some]
  have jt : gimbalref02_Mod.j0 (k + 9) true (C a b).1 (C a b).2 (ng (C c d)).1 (ng (C c d)).2 (ps (C c d)).1 (ps (C c d)).2 = some (1, 0) := rfl
  by_cases h1 : (C a b).1 > (C a b).2
  · rw [decide_eq_true h1, if_pos rfl, jt, if_pos (Or.inl h1)]
  have sp := S_W hp h1
  rw [decide_eq_false h1, if_neg (by decide)]
  by_cases hb : (ng (C c d)).1 > (ng (C c d)).2 ∧ (ps (C c d)).1 > (ps (C c d)).2
  · rw [decide_eq_true hb.1, if_pos rfl, decide_eq_true hb.2, jt]
    unfold MD
    by_cases h2 : (C c d).1 > (C c d).2
    · rw [if_pos (Or.inr h2)]
    · rw [if_neg (by omega : ¬ ((C a b).1 > (C a b).2 ∨ (C c d).1 > (C c d).2)), if_pos hb]
  · have h2 : ¬ (C c d).1 > (C c d).2 := by
      intro h2
      apply hb
      unfold ng ps
      rw [me_none h2, me_none h2]
      exact ⟨by decide, by decide⟩
    rw [if_neg (by omega : ¬ ((C a b).1 > (C a b).2 ∨ (C c d).1 > (C c d).2))]
    by_cases g1 : (ng (C c d)).1 > (ng (C c d)).2
    · rw [decide_eq_true g1, if_pos rfl, decide_eq_false (fun x => hb ⟨g1, x⟩), rj0f k sp hq hb]
    · rw [decide_eq_false g1, if_neg (by decide), rj0f k sp hq hb]
theorem awakeD : gimballaw02_awake.f 12 = some true := by decide +kernel
end Go.Proofs.Ytbbnpipmjadpoaa.M
namespace Go.Proofs.Ytbbnpipmjadpoaa.Pure
open Go Go.RowKit Go.Proofs.Ytbbnpipmjadpoaa.P Go.Proofs.YtbbnpipmjadpoaaW.PrintWords Go.Proofs.YtbbnpipmjadpoaaW.PrintMore Go.Proofs.Ytbbnpipmjadpoaa.M
theorem ItvDivides : gimballaw02_ItvDivides.Pure := by
  intro a b c d _ _ _ _
  refine ⟨12, ?_⟩
  unfold gimballaw02_ItvDivides.f
  rw [divf 10, divf2 9, modf 9, modf2 3, awakeD]
  generalize DD (C a b) (C c d) = t
  generalize MM (C a b) (C c d) = u
  simp only [Option.bind_some, beq_self_eq_true, Bool.and_self, if_true]
end Go.Proofs.Ytbbnpipmjadpoaa.Pure
