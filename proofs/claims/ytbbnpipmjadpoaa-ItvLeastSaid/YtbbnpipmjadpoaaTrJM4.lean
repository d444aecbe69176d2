/- What the law's proof needs of M4. -/
import Derived.Test.YtbbnpipmjadpoaaTrJM2
import Derived.Test.YtbbnpipmjadpoaaTrJU2
import Derived.Test.YtbbnpipmjadpoaaTrJU
import Derived.Test.YtbbnpipmjadpoaaTrJPx0
import Derived.Test.YtbbnpipmjadpoaaTrJPx3
import Derived.Test.YtbbnpipmjadpoaaTrJPx8
namespace Go.Proofs.Ytbbnpipmjadpoaa.M
open Go Go.RowKit Go.Proofs.Ytbbnpipmjadpoaa.P Go.Proofs.YtbbnpipmjadpoaaW.PrintWords Go.Proofs.YtbbnpipmjadpoaaW.PrintMore
/-- an interval as all functions give it: the empty one, or one with numbers -/
def W (p : Int × Int) : Prop := (p.1 = 1 ∧ p.2 = 0) ∨ S p
theorem W_C (a b : Int) : W (C a b) := by
  rcases C_cases a b with ⟨_, e⟩ | ⟨_, e⟩
  · left; rw [e]; exact ⟨rfl, rfl⟩
  · exact Or.inr e
theorem C_W {p : Int × Int} (h : W p) : C p.1 p.2 = p := by
  rcases h with ⟨h1, h2⟩ | h
  · apply Prod.ext
    · rw [h1, h2]; rfl
    · rw [h1, h2]; rfl
  · exact C_S h
def jn (p q : Int × Int) : Int × Int := if p.1 > p.2 then q else if q.1 > q.2 then p else (min p.1 q.1, max p.2 q.2)
def me (p q : Int × Int) : Int × Int := if p.1 > p.2 ∨ q.1 > q.2 ∨ max p.1 q.1 > min p.2 q.2 then (1, 0) else (max p.1 q.1, min p.2 q.2)
theorem W_me {p q : Int × Int} (hp : W p) (hq : W q) : W (me p q) := by
  unfold me
  by_cases h1 : p.1 > p.2 ∨ q.1 > q.2 ∨ max p.1 q.1 > min p.2 q.2
  · rw [if_pos h1]; exact Or.inl ⟨rfl, rfl⟩
  · rw [if_neg h1]
    unfold W S at *
    right
    dsimp only
    omega
theorem joinf (a b c d : Int) : itv_Join.f a b c d = some (jn (C a b) (C c d)) := by
  unfold itv_Join.f itv_None.f jn
  rw [sound1, sound1, Option.bind_some, Option.bind_some, Option.bind_some, Option.bind_some, mnm, mxm]
  generalize C a b = p
  generalize C c d = q
  by_cases h : p.1 > p.2
  · rw [decide_eq_true h, if_pos rfl, if_pos h]
  · rw [decide_eq_false h, if_neg (by decide), if_neg h]
    by_cases h2 : q.1 > q.2
    · rw [decide_eq_true h2, if_pos rfl, if_pos h2]
    · rw [decide_eq_false h2, if_neg (by decide), if_neg h2]
theorem meetf (k : Nat) (a b c d : Int) : itv_Meet.f (k + 1) a b c d = some (me (C a b) (C c d)) := by
  rw [meet1]
  congr 1
  have hp := W_C a b
  have hq := W_C c d
  generalize C a b = p at *
  generalize C c d = q at *
  unfold me mt
  by_cases h : p.1 > p.2 ∨ q.1 > q.2
  · rw [if_pos h, if_pos (by omega)]
  · rw [if_neg h]
    unfold W S at hp hq
    by_cases h2 : max p.1 q.1 > min p.2 q.2
    · rw [if_pos (by omega), C, if_pos h2]
    · rw [if_neg (by omega)]
      have : S (max p.1 q.1, min p.2 q.2) := by unfold S; dsimp only; omega
      exact C_S this
end Go.Proofs.Ytbbnpipmjadpoaa.M
