/- What the document's Set answers, and what copied answers. -/
import Derived.Test.YtklignhpkojmhaaM6
import Derived.Test.YtklignhpkojmhaaPx7
import Derived.Test.YtklignhpkojmhaaPx11
namespace Go.Proofs.Ytklignhpkojmhaa.M
open Go Go.RowKit Go.Proofs.Ytklignhpkojmhaa.P Go.Proofs.YtklignhpkojmhaaW.PrintWords Go.Proofs.YtklignhpkojmhaaW.PrintMore Go.Proofs.YtklignhpkojmhaaO

theorem copied_f {m : List Int} (h : m.length * 8 ≤ 140737488351232) : gimballaw10_copied.f m = some m := by
  unfold gimballaw10_copied.f
  rw [if_pos (by rw [List.length_nil]; omega)]
  simp only [Option.bind_some, List.nil_append]
  rw [if_pos (by simp; omega), if_pos (by omega), if_pos (by simp; omega), Int.toNat_natCast]
  simp
theorem refcopied_f {m : List Int} (h : m.length * 8 ≤ 140737488351232) : gimbalref10_copied.f m = some m := by
  unfold gimbalref10_copied.f
  rw [if_pos (by simp; omega)]
  simp
theorem ext_at {n : Nat} {x y : List Int} (hx : x.length = n * n) (hy : y.length = n * n) (h : ∀ a b, a < n → b < n → at_ x n a b = at_ y n a b) : x = y := by
  refine list_ext hx hy (fun q hq => ?_)
  obtain ⟨i, j, hi, hj, rfl⟩ := pq hq
  exact h i j hi hj
theorem other2_f : ∀ j : Nat, j < 16 → gimbalref10_other.f ((j : Nat) : Int) = some ((bar j : Nat) : Int) := by decide +kernel
def lowered (x : List Int) (n i j : Nat) (v : Int) : List Int := if v < at_ x n i j then x.set (i * n + j) v else x
section
variable {n i j : Nat} {x : List Int} {v : Int}
theorem lowered_len (h : x.length = n * n) : (lowered x n i j v).length = n * n := by
  unfold lowered
  split
  · rw [List.length_set, h]
  · exact h
theorem lowered_at (h : x.length = n * n) (hi : i < n) (hj : j < n) {a b : Nat} (hb : b < n) : at_ (lowered x n i j v) n a b = if i = a ∧ j = b then min (at_ x n i j) v else at_ x n a b := by
  unfold lowered
  split
  · rw [at_set h hi hj hb]
    split
    · omega
    · rfl
  · split
    · rename_i h1 h2
      rw [← h2.1, ← h2.2]
      omega
    · rfl
end
theorem set_eq {m y : List Int} {n : Nat} (h : Sq m n) {i j : Nat} (hi : i < n) (hj : j < n) (c : Int) (hy : SetP m y n i j c) : y = lowered (lowered (m.map tk) n i j (tk c)) n (bar j) (bar i) (tk c) := by
  have hbi := bar_lt h.2.1 hi
  have hbj := bar_lt h.2.1 hj
  have l0 : (m.map tk).length = n * n := by rw [List.length_map, h.2.2]
  have l1 : (lowered (m.map tk) n i j (tk c)).length = n * n := lowered_len l0
  have l2 : (lowered (lowered (m.map tk) n i j (tk c)) n (bar j) (bar i) (tk c)).length = n * n := lowered_len l1
  refine ext_at hy.1 l2 (fun a b ha hb => ?_)
  rw [hy.2 a b ha hb, lowered_at l1 hbj hbi hb, lowered_at l0 hi hj hbi, lowered_at l0 hi hj hb, at_map h.2.2 hbj hbi, at_map h.2.2 hi hj, at_map h.2.2 ha hb]
  by_cases c2 : bar j = a ∧ bar i = b
  · obtain ⟨rfl, rfl⟩ := c2
    rw [if_pos (show (bar j = i ∧ bar i = j) ∨ (bar j = bar j ∧ bar i = bar i) from .inr ⟨rfl, rfl⟩), if_pos (show bar j = bar j ∧ bar i = bar i from ⟨rfl, rfl⟩)]
    by_cases hh : i = bar j ∧ j = bar i
    · rw [if_pos hh, ← hh.1, ← hh.2]
      omega
    · rw [if_neg hh]
  · rw [if_neg c2]
    by_cases c1 : i = a ∧ j = b
    · obtain ⟨rfl, rfl⟩ := c1
      rw [if_pos (show (i = i ∧ j = j) ∨ (i = bar j ∧ j = bar i) from .inl ⟨rfl, rfl⟩), if_pos (show i = i ∧ j = j from ⟨rfl, rfl⟩)]
    · rw [if_neg (show ¬ (i = a ∧ j = b) from c1), if_neg]
      rintro (⟨rfl, rfl⟩ | ⟨rfl, rfl⟩)
      · exact c1 ⟨rfl, rfl⟩
      · exact c2 ⟨rfl, rfl⟩
theorem refset_j1 {n : Nat} (hn : n ≤ 16) (he : n % 2 = 0) {i j : Nat} (hi : i < n) (hj : j < n) (v : Int) {z : List Int} (hz : z.length = n * n) (k : Nat) : gimbalref10_Set.j1 (k + 1) (i : Int) (j : Int) v (n : Int) z = some (lowered z n (bar j) (bar i) v) := by
  have hbi := bar_lt he hi
  have hbj := bar_lt he hj
  have hl2 : (((bar j * n + bar i : Nat) : Int)) < (z.length : Int) := by rw [hz]; have := ixn hbj hbi; omega
  simp only [gimbalref10_Set.j1]
  rw [other2_f j (by omega), Option.bind_some, other2_f i (by omega), Option.bind_some, ix hn hbj hbi, if_pos (by omega), if_pos hl2, rd_at, Int.toNat_natCast]
  unfold lowered
  by_cases hc : v < at_ z n (bar j) (bar i)
  · rw [if_pos hc, if_pos hc]
  · rw [if_neg hc, if_neg hc]
theorem refset_j0 {m : List Int} {n : Nat} (h : Sq m n) {i j : Nat} (hi : i < n) (hj : j < n) (c : Int) {r : List Int} (hr : Ev (fun k => gimbalref10_Set.j1 k (i : Int) (j : Int) (tk c) (n : Int) (lowered (m.map tk) n i j (tk c))) r) : Ev (fun k => gimbalref10_Set.j0 k m (i : Int) (j : Int) c (n : Int) false) r := by
  have hn := h.1
  have hL : m.length ≤ 256 := by rw [h.2.2]; exact Nat.mul_le_mul hn hn
  have l0 : (m.map tk).length = n * n := by rw [List.length_map, h.2.2]
  have hl : (((i * n + j : Nat) : Int)) < ((m.map tk).length : Int) := by rw [l0]; have := ixn hi hj; omega
  refine Ev.step (f := fun k => (gimbalref10_allTaken.f k m).bind fun t171 => ((gimbalref10_Taken.f c).bind fun t174 => (if 0 ≤ (wrap64 ((wrap64 ((i : Int) * (n : Int))) + (j : Int))) then (if (wrap64 ((wrap64 ((i : Int) * (n : Int))) + (j : Int))) < (t171.length : Int) then (if t174 < (rd t171 (wrap64 ((wrap64 ((i : Int) * (n : Int))) + (j : Int)))) then (gimbalref10_Set.j1 k (i : Int) (j : Int) t174 (n : Int) (t171.set ((wrap64 ((wrap64 ((i : Int) * (n : Int))) + (j : Int))) : Int).toNat t174)) else (gimbalref10_Set.j1 k (i : Int) (j : Int) t174 (n : Int) t171)) else (none)) else (none)))) (fun k => by simp only [gimbalref10_Set.j0]; rw [if_neg (by decide)]) ?_
  refine Ev.bind (allTaken_ev (by omega)) ?_
  refine Ev.congr (fun k => ?_) hr
  rw [reftaken, Option.bind_some, ix hn hi hj, if_pos (by omega), if_pos hl, rd_at, Int.toNat_natCast]
  unfold lowered
  by_cases hc : tk c < at_ (m.map tk) n i j
  · rw [if_pos hc, if_pos hc]
  · rw [if_neg hc, if_neg hc]
theorem refset_in {m y : List Int} {n : Nat} (h : Sq m n) {i j : Nat} (hi : i < n) (hj : j < n) (c : Int) (hy : SetP m y n i j c) : Ev (fun k => gimbalref10_Set.f k m (i : Int) (j : Int) c) y := by
  have l0 : (m.map tk).length = n * n := by rw [List.length_map, h.2.2]
  rw [set_eq h hi hj c hy]
  have hj1 : Ev (fun k => gimbalref10_Set.j1 k (i : Int) (j : Int) (tk c) (n : Int) (lowered (m.map tk) n i j (tk c))) (lowered (lowered (m.map tk) n i j (tk c)) n (bar j) (bar i) (tk c)) := Ev.step (f := fun _ => some (lowered (lowered (m.map tk) n i j (tk c)) n (bar j) (bar i) (tk c))) (fun k => refset_j1 h.1 h.2.1 hi hj (tk c) (lowered_len l0) k) (Ev.now _)
  have hj0 := refset_j0 h hi hj c hj1
  unfold gimbalref10_Set.f
  refine Ev.bind (Ev.congr (fun k => refnodes_f k m) (size_sq h).1) ?_
  refine Ev.congr (fun k => ?_) hj0
  rw [if_pos rfl, if_neg (by omega), if_neg (by show ¬ (i : Int) ≥ (n : Int); omega), if_neg (by omega), decide_eq_false (by show ¬ (j : Int) ≥ (n : Int); omega)]
theorem refset_out {m : List Int} (hL : m.length * 8 ≤ 140737488351232) (a b c : Int) (h : ∀ n, Sq m n → a < 0 ∨ (n : Int) ≤ a ∨ b < 0 ∨ (n : Int) ≤ b) : Ev (fun k => gimbalref10_Set.f k m a b c) m := by
  have out : ∀ N : Int, Ev (fun k => gimbalref10_Set.j0 k m a b c N true) m := fun N => Ev.step (f := fun _ => some m) (fun k => by simp only [gimbalref10_Set.j0]; rw [if_pos trivial, refcopied_f hL]; rfl) (Ev.now _)
  unfold gimbalref10_Set.f
  rcases size_ev m with ⟨n, h1, h2, _⟩ | ⟨_, h2, _⟩
  · refine Ev.bind (Ev.congr (fun k => refnodes_f k m) h2) ?_
    refine Ev.congr (f := fun k => gimbalref10_Set.j0 k m a b c (n : Int) true) (fun k => ?_) (out _)
    have := h n h1
    rw [if_pos rfl]
    by_cases e1 : a < 0
    · rw [if_pos e1]
    · rw [if_neg e1]
      by_cases e2 : a ≥ (n : Int)
      · rw [if_pos e2]
      · rw [if_neg e2]
        by_cases e3 : b < 0
        · rw [if_pos e3]
        · rw [if_neg e3, decide_eq_true (by show b ≥ (n : Int); omega)]
  · refine Ev.bind (Ev.congr (fun k => refnodes_f k m) h2) ?_
    exact Ev.congr (f := fun k => gimbalref10_Set.j0 k m a b c 0 true) (fun k => by rw [if_neg (by decide)]) (out _)
/-- What dbm Set answers, the document's Set answers too. -/
theorem set_both {m : List Int} (hL : m.length * 8 ≤ 140737488351232) (a b c : Int) : ∃ y : List Int, y.length ≤ 17592186044000 ∧ Ev (fun k => dbm_Set.f k m a b c) y ∧ Ev (fun k => gimbalref10_Set.f k m a b c) y := by
  by_cases hs : ∃ n, Sq m n ∧ 0 ≤ a ∧ a < (n : Int) ∧ 0 ≤ b ∧ b < (n : Int)
  · obtain ⟨n, h, h1, h2, h3, h4⟩ := hs
    obtain ⟨i, rfl⟩ := Int.eq_ofNat_of_zero_le h1
    obtain ⟨j, rfl⟩ := Int.eq_ofNat_of_zero_le h3
    have hi : i < n := by omega
    have hj : j < n := by omega
    obtain ⟨y, hy, ey⟩ := set_in h hi hj c
    have hn := h.1
    have : n * n ≤ 16 * 16 := Nat.mul_le_mul hn hn
    exact ⟨y, by rw [hy.1]; omega, ey, refset_in h hi hj c hy⟩
  · have ho : ∀ n, Sq m n → a < 0 ∨ (n : Int) ≤ a ∨ b < 0 ∨ (n : Int) ≤ b := by
      intro n hn
      have : ¬ (0 ≤ a ∧ a < (n : Int) ∧ 0 ≤ b ∧ b < (n : Int)) := fun z => hs ⟨n, hn, z⟩
      omega
    exact ⟨m, by omega, set_out (by omega) a b c ho, refset_out hL a b c ho⟩
end Go.Proofs.Ytklignhpkojmhaa.M
