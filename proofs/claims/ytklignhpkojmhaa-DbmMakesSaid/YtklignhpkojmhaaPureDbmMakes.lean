/- New of any number and Size of any list are what the document answers, and Size of New of 4 is 4; no condition beyond the arguments' own bounds. -/
import Derived.Test.YtklignhpkojmhaaPx4
namespace Go.Proofs.Ytklignhpkojmhaa.Pure
open Go.RowKit Go.Proofs.Ytklignhpkojmhaa.P Go.Proofs.YtklignhpkojmhaaW.PrintWords Go.Proofs.YtklignhpkojmhaaW.PrintLast

theorem nodes_eq : ∀ (k : Nat) (l : List Int) (x : Int), gimbalref10_Nodes.l0 k l x = dbm_size.l0 k l x
  | 0, _, _ => rfl
  | k + 1, l, x => by simp only [gimbalref10_Nodes.l0, dbm_size.l0, nodes_eq k]

theorem size_l0 (l : List Int) : ∀ (k : Nat) (x : Int), 0 ≤ x → x ≤ 18 → 18 - x < 2 * (k : Int) + 2 → ∃ r, dbm_size.l0 (k + 1) l x = some r
  | 0, x, h0, h1, h2 => by
    simp only [dbm_size.l0]
    rw [if_neg (by omega)]
    exact ⟨_, rfl⟩
  | k + 1, x, h0, h1, h2 => by
    unfold dbm_size.l0
    by_cases h : x ≤ 16
    · rw [if_pos h]
      split
      · exact ⟨_, rfl⟩
      · have : wrap64 (x + 2) = x + 2 := by unfold wrap64; omega
        rw [this]
        exact size_l0 l k (x + 2) (by omega) (by omega) (by omega)
    · rw [if_neg h]
      exact ⟨_, rfl⟩

theorem size_some (l : List Int) : ∃ r, dbm_size.f 11 l = some r := size_l0 l 10 0 (by omega) (by omega) (by omega)

theorem size_more (l : List Int) (j : Nat) : ∃ r, dbm_size.f (11 + j) l = some r ∧ gimbalref10_Nodes.f (11 + j) l = some r := by
  obtain ⟨r, hr⟩ := size_some l
  have h := more_rounds (g := fun k => dbm_size.f k l) (fun k => dbm_size.mono l k) 11 j r hr
  exact ⟨r, h, by unfold gimbalref10_Nodes.f; rw [nodes_eq]; exact h⟩

/-- YOURS: ∀ (a0 : Int) (l1 : List Int), (Lit.int .i64 a0).wf = true → l1.length ≤ maxLen → l1.length * 8 ≤ 140737488351232 → (∀ x ∈ l1, (Lit.int .i64 x).wf = true) → ∃ k, gimballaw10_DbmMakes.f k a0 l1 = some true
What it reaches (each with k first where it has rounds; `.mono`: more rounds tell the same; `.l0`, ..: its loops, with `.mono_l`): gimballaw10_same.f, dbm_New.f, gimbalref10_New.f, dbm_size.f, dbm_Size.f, gimbalref10_Nodes.f, gimbalref10_Size.f, gimballaw10_DbmMakes.f -/
theorem DbmMakes : gimballaw10_DbmMakes.Pure := by
  intro a0 l1 _ _ _ _
  obtain ⟨r, h1, h2⟩ := size_more l1 989
  have hn : ((dbm_New.f 1000 4).bind fun t127 => ((dbm_Size.f 1000 t127).bind fun t130 => (some (t130 == 4)))) = some true := by decide +kernel
  have key : ((dbm_New.f 1000 a0).bind fun t118 => ((gimbalref10_New.f 1000 a0).bind fun t121 => (gimballaw10_same.f 1000 t118 t121))) = some true := by
    by_cases hlt : a0 < 0
    · simp only [dbm_New.f, gimbalref10_New.f, if_pos hlt]
      have : dbm_New.j0 1000 a0 true = some [] := rfl
      rw [this]
      have : gimbalref10_New.j0 1000 a0 true = some [] := rfl
      rw [this]
      decide +kernel
    · by_cases hgt : a0 > 16
      · simp only [dbm_New.f, gimbalref10_New.f, if_pos hgt, if_neg hlt]
        have : dbm_New.j0 1000 a0 true = some [] := rfl
        rw [this]
        have : gimbalref10_New.j0 1000 a0 true = some [] := rfl
        rw [this]
        decide +kernel
      · have : a0 = 0 ∨ a0 = 1 ∨ a0 = 2 ∨ a0 = 3 ∨ a0 = 4 ∨ a0 = 5 ∨ a0 = 6 ∨ a0 = 7 ∨ a0 = 8 ∨ a0 = 9 ∨ a0 = 10 ∨ a0 = 11 ∨ a0 = 12 ∨ a0 = 13 ∨ a0 = 14 ∨ a0 = 15 ∨ a0 = 16 := by omega
        rcases this with rfl | rfl | rfl | rfl | rfl | rfl | rfl | rfl | rfl | rfl | rfl | rfl | rfl | rfl | rfl | rfl | rfl <;> decide +kernel
  refine ⟨1000, ?_⟩
  unfold gimballaw10_DbmMakes.f
  obtain ⟨p, e1, key⟩ := Option.bind_eq_some_iff.mp key
  obtain ⟨q, e2, key⟩ := Option.bind_eq_some_iff.mp key
  rw [e1, e2]
  simp only [Option.bind_some, key, if_true]
  unfold dbm_Size.f gimbalref10_Size.f
  rw [h1, h2]
  simp only [Option.bind_some, if_true]
  exact hn

end Go.Proofs.Ytklignhpkojmhaa.Pure
