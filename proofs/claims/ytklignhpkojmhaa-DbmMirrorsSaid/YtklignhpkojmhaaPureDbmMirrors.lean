/- What Set does: a mirrored matrix stays mirrored, no entry grows, and values are in it just if they were in it and meet what was set. -/
import Derived.Test.YtklignhpkojmhaaM4
import Derived.Test.YtklignhpkojmhaaPx29
namespace Go.Proofs.Ytklignhpkojmhaa.Pure
open Go Go.RowKit Go.Proofs.Ytklignhpkojmhaa.P Go.Proofs.YtklignhpkojmhaaW.PrintWords Go.Proofs.YtklignhpkojmhaaW.PrintMore Go.Proofs.Ytklignhpkojmhaa.M

theorem mirrors_tail : Ev (fun k => (gimballaw10_awake.f k).bind fun t => some t) true := Ev.bind awake_ev (Ev.now _)
/-- The values. -/
theorem mirrors_v {m v y : List Int} {n i j : Nat} {c : Int} (hs : Sq m n) (hi : i < n) (hj : j < n) (hv : v.length ≤ 17592186044416) (hy : SetP m y n i j c) : Ev (fun k => (dbm_Holds.f k m v).bind fun t397 => (if t397 = true then (if 0 ≤ (wrap64 (Int.tdiv (i : Int) 2)) then (if (wrap64 (Int.tdiv (i : Int) 2)) < (v.length : Int) then (if 0 ≤ (wrap64 (Int.tdiv (j : Int) 2)) then (if (wrap64 (Int.tdiv (j : Int) 2)) < (v.length : Int) then (if (Int.tmod (i : Int) 2) = 1 then (gimballaw10_DbmMirrors.j3 k (j : Int) c v y (wrap64 (-(rd v (wrap64 (Int.tdiv (i : Int) 2))))) (rd v (wrap64 (Int.tdiv (j : Int) 2)))) else (gimballaw10_DbmMirrors.j3 k (j : Int) c v y (rd v (wrap64 (Int.tdiv (i : Int) 2))) (rd v (wrap64 (Int.tdiv (j : Int) 2))))) else (none)) else (none)) else (none)) else (none)) else ((dbm_Holds.f k y v).bind fun t398 => (if t398 = true then (some false) else ((gimballaw10_awake.f k).bind fun t399 => (some t399)))))) true := by
  have hn := hs.1
  have hsy : Sq y n := ⟨hs.1, hs.2.1, hy.1⟩
  obtain ⟨b, hb, eb⟩ := holds_sq hs hv
  obtain ⟨d, hd, ed⟩ := holds_sq hsy hv
  refine Ev.bind eb ?_
  cases b with
  | false =>
    refine Ev.congr (f := fun k => (dbm_Holds.f k y v).bind fun t398 => (if t398 = true then (some false) else ((gimballaw10_awake.f k).bind fun t399 => (some t399)))) (fun k => by rw [if_neg (by decide)]) ?_
    have : d = false := by
      rw [← Bool.not_eq_true]
      intro e
      obtain ⟨h1, h2, h3⟩ := hd.mp e
      exact absurd (hb.mpr ⟨h1, h2, hy.back h3⟩) (by decide)
    subst this
    exact Ev.bind ed (Ev.congr (fun k => by rw [if_neg (by decide)]) mirrors_tail)
  | true =>
    obtain ⟨h1, h2, h3⟩ := hb.mp rfl
    have key : d = decide (val v j - val v i ≤ tk c) := by
      rw [Bool.eq_iff_iff, hd, decide_eq_true_iff, ← hy.fits hs.2.1 hi hj h1 h2 h3]
      exact ⟨fun z => z.2.2, fun z => ⟨h1, h2, z⟩⟩
    have b1 := h2 (i / 2) (by omega)
    have b2 := h2 (j / 2) (by omega)
    have w2 : ∀ x : Int, -MB ≤ x ∧ x ≤ MB → wrap64 (-x) = -x := by intro x hx; unfold MB at hx; unfold wrap64; omega
    have w3 : ∀ x y : Int, -MB ≤ x ∧ x ≤ MB → -MB ≤ y ∧ y ≤ MB → wrap64 (x - y) = x - y := by intro x y hx hy; unfold MB at *; unfold wrap64; omega
    have w4 : ∀ x : Int, -MB ≤ x ∧ x ≤ MB → -MB ≤ -x ∧ -x ≤ MB := by intro x hx; omega
    have bvi := val_le h2 (i := i) (by omega)
    have j3 : Ev (fun k => gimballaw10_DbmMirrors.j3 k (j : Int) c v y (val v i) (v.getD (j / 2) 0)) true := by
      refine Ev.step (f := fun k => (dbm_Holds.f k y v).bind fun t => (if (t == decide (val v j - val v i ≤ tk c)) = true then ((gimballaw10_awake.f k).bind fun t => (some t)) else (some false))) (fun k => ?_) ?_
      · simp only [gimballaw10_DbmMirrors.j3]
        rw [tmod2, law_taken]
        simp only [Option.bind_some]
        have ej : val v j = if j % 2 = 0 then v.getD (j / 2) 0 else -v.getD (j / 2) 0 := rfl
        by_cases e : j % 2 = 0
        · rw [if_neg (by omega), w3 _ _ b2 bvi, ej, if_pos e]
        · rw [if_pos (by omega), w2 _ b2, w3 _ _ (w4 _ b2) bvi, ej, if_neg e]
      · refine Ev.bind ed (Ev.congr (fun k => ?_) mirrors_tail)
        rw [key, if_pos (beq_self_eq_true _)]
    refine Ev.congr (fun k => ?_) j3
    rw [if_pos rfl, tdiv2, tdiv2, wid (by omega), wid (by omega), if_pos (by omega), if_pos (by omega), if_pos (by omega), if_pos (by omega), tmod2, rd_nat, rd_nat]
    have ei : val v i = if i % 2 = 0 then v.getD (i / 2) 0 else -v.getD (i / 2) 0 := rfl
    by_cases e : i % 2 = 0
    · rw [if_neg (by omega), ei, if_pos e]
    · rw [if_pos (by omega), w2 _ b1, ei, if_neg e]
theorem mirrors_l0 {m v y : List Int} {n i j : Nat} {c : Int} (hs : Sq m n) (hi : i < n) (hj : j < n) (hv : v.length ≤ 17592186044416) (hy : SetP m y n i j c) : ∀ (d p : Nat), y.length - p = d → p ≤ y.length → Ev (fun k => gimballaw10_DbmMirrors.l0 k m (i : Int) (j : Int) c v y (p : Int)) true := by
  have hL : m.length ≤ 256 := by rw [hs.2.2]; exact Nat.mul_le_mul hs.1 hs.1
  have hly : y.length = m.length := hy.1.trans hs.2.2.symm
  intro d
  induction d with
  | zero =>
    intro p hd hp
    exact Ev.step (fun k => by simp only [gimballaw10_DbmMirrors.l0]; rw [if_neg (by omega)]) (mirrors_v hs hi hj hv hy)
  | succ d ih =>
    intro p hd hp
    have hpl : p < y.length := by omega
    have hle : y.getD p 0 ≤ tk (m.getD p 0) := by
      obtain ⟨a, b, ha, hb, rfl⟩ := pq (n := n) (p := p) (by rw [← hy.1]; exact hpl)
      exact hy.le ha hb
    exact Ev.step (fun k => by simp only [gimballaw10_DbmMirrors.l0]; rw [if_pos (by omega), if_pos (by omega), if_pos (by omega), rd_nat, law_taken]; simp only [Option.bind_some]; rw [rd_nat, if_neg (by omega), w1 (by omega)]) (ih (p + 1) (by omega) (by omega))

theorem mirrors_in {m v : List Int} {n i j : Nat} {c : Int} (hs : Sq m n) (hi : i < n) (hj : j < n) (hv' : v.length ≤ 17592186044416) : Ev (fun k => gimballaw10_DbmMirrors.f k m (i : Int) (j : Int) c v) true := by
  unfold gimballaw10_DbmMirrors.f
  have hn := hs.1
  obtain ⟨y, hy, ey⟩ := set_in hs hi hj c
  have hsy : Sq y n := ⟨hs.1, hs.2.1, hy.1⟩
  have hbi := bar_lt hs.2.1 hi
  have hbj := bar_lt hs.2.1 hj
  refine Ev.bind ey (Ev.bind (size_sq hs).2 ?_)
  refine Ev.congr (f := fun k => gimballaw10_DbmMirrors.j0 k m (i : Int) (j : Int) c v y (n : Int) false) (fun k => ?_) ?_
  · rw [if_neg (by omega), if_neg (by omega), if_neg (by omega), if_neg (by omega), decide_eq_false (by omega)]
  · obtain ⟨p, hp, ep⟩ := coh_sq hs
    obtain ⟨q, hq, eq⟩ := coh_sq hsy
    have tail : Ev (fun k => gimballaw10_DbmMirrors.j1 k m (i : Int) (j : Int) c v y false) true :=
      Ev.step (f := fun k => gimballaw10_DbmMirrors.l0 k m (i : Int) (j : Int) c v y ((0 : Nat) : Int)) (fun k => by simp only [gimballaw10_DbmMirrors.j1]; rw [if_neg (by decide)]; rfl) (mirrors_l0 hs hi hj hv' hy y.length 0 rfl (by omega))
    have hl : (((i * n + j : Nat) : Int)) < (y.length : Int) := by rw [hy.1]; have := ixn hi hj; omega
    have hl2 : (((bar j * n + bar i : Nat) : Int)) < (y.length : Int) := by rw [hy.1]; have := ixn hbj hbi; omega
    have g1 : at_ y n i j ≤ tk c := by rw [hy.2 i j hi hj, if_pos (.inl ⟨rfl, rfl⟩)]; omega
    have g2 : at_ y n (bar j) (bar i) ≤ tk c := by rw [hy.2 _ _ hbj hbi, if_pos (.inr ⟨rfl, rfl⟩)]; omega
    have mid : ∀ k, (if 0 ≤ (wrap64 ((wrap64 ((i : Int) * (n : Int))) + (j : Int))) then (if (wrap64 ((wrap64 ((i : Int) * (n : Int))) + (j : Int))) < (y.length : Int) then ((gimballaw10_taken.f c).bind fun t383 => (if (rd y (wrap64 ((wrap64 ((i : Int) * (n : Int))) + (j : Int)))) > t383 then (gimballaw10_DbmMirrors.j1 k m (i : Int) (j : Int) c v y true) else ((gimballaw10_bar.f (j : Int)).bind fun t384 => ((gimballaw10_bar.f (i : Int)).bind fun t385 => (if 0 ≤ (wrap64 ((wrap64 (t384 * (n : Int))) + t385)) then (if (wrap64 ((wrap64 (t384 * (n : Int))) + t385)) < (y.length : Int) then ((gimballaw10_taken.f c).bind fun t387 => (gimballaw10_DbmMirrors.j1 k m (i : Int) (j : Int) c v y (decide ((rd y (wrap64 ((wrap64 (t384 * (n : Int))) + t385))) > t387)))) else (none)) else (none)))))) else (none)) else (none)) = gimballaw10_DbmMirrors.j1 k m (i : Int) (j : Int) c v y false := by
      intro k
      rw [ix hn hi hj, if_pos (by omega), if_pos hl, law_taken, Option.bind_some, rd_at, if_neg (by omega), bar_f j (by omega), Option.bind_some, bar_f i (by omega), Option.bind_some, ix hn hbj hbi, if_pos (by omega), if_pos hl2, Option.bind_some, rd_at, decide_eq_false (by omega)]
    refine Ev.step (f := fun k => (dbm_Coherent.f k m).bind fun t380 => (if t380 = true then ((dbm_Coherent.f k y).bind fun t381 => (if t381 = true then gimballaw10_DbmMirrors.j1 k m (i : Int) (j : Int) c v y false else (gimballaw10_DbmMirrors.j1 k m (i : Int) (j : Int) c v y true))) else gimballaw10_DbmMirrors.j1 k m (i : Int) (j : Int) c v y false)) (fun k => ?_) ?_
    · simp only [gimballaw10_DbmMirrors.j0]
      rw [if_neg (by decide), if_pos (by rw [hy.1, hs.2.2])]
      simp only [mid k]
    · refine Ev.bind ep ?_
      cases p with
      | false => exact Ev.congr (fun k => by rw [if_neg (by decide)]) tail
      | true =>
        have : q = true := hq.mpr (hy.coh hs.2.1 (hp.mp rfl))
        subst this
        refine Ev.congr (f := fun k => (dbm_Coherent.f k y).bind fun t381 => (if t381 = true then gimballaw10_DbmMirrors.j1 k m (i : Int) (j : Int) c v y false else (gimballaw10_DbmMirrors.j1 k m (i : Int) (j : Int) c v y true))) (fun k => by rw [if_pos rfl]) ?_
        exact Ev.bind eq (Ev.congr (fun k => by rw [if_pos rfl]) tail)

theorem DbmMirrors : gimballaw10_DbmMirrors.Pure := by
  intro m a b c v _ hm _ _ _ _ _ hv _
  have hv' : v.length ≤ 17592186044416 := by omega
  have hm' : m.length ≤ 17592186044416 := by omega
  refine Ev.rounds (r := true) ?_
  unfold gimballaw10_DbmMirrors.f
  have out : Ev (fun k => dbm_Set.f k m a b c) m → ∀ N : Int, Ev (fun k => gimballaw10_DbmMirrors.j0 k m a b c v m N true) true := fun h N => by
    refine Ev.step (f := fun k => (gimballaw10_same.f k m m).bind fun t => if t = true then (gimballaw10_awake.f k).bind fun t => some t else some false) (fun k => by simp only [gimballaw10_DbmMirrors.j0]; rw [if_pos trivial]) ?_
    exact Ev.bind (same_self hm') (Ev.congr (fun k => by rw [if_pos rfl]) mirrors_tail)
  by_cases hs : ∃ n, Sq m n
  · obtain ⟨n, hs⟩ := hs
    have hn := hs.1
    by_cases hin : 0 ≤ a ∧ a < n ∧ 0 ≤ b ∧ b < n
    · obtain ⟨h1, h2, h3, h4⟩ := hin
      obtain ⟨i, rfl⟩ := Int.eq_ofNat_of_zero_le h1
      obtain ⟨j, rfl⟩ := Int.eq_ofNat_of_zero_le h3
      have hi : i < n := by omega
      have hj : j < n := by omega
      have := mirrors_in (c := c) hs hi hj hv'
      unfold gimballaw10_DbmMirrors.f at this
      exact this
    · have hset : Ev (fun k => dbm_Set.f k m a b c) m := set_out hm' a b c (fun n' h' => by
        have := hs.inj h'
        subst this
        omega)
      refine Ev.bind hset (Ev.bind (size_sq hs).2 ?_)
      refine Ev.congr (f := fun k => gimballaw10_DbmMirrors.j0 k m a b c v m (n : Int) true) (fun k => ?_) (out hset _)
      rw [if_neg (by omega)]
      by_cases e1 : a < 0
      · rw [if_pos e1]
      · rw [if_neg e1]
        by_cases e2 : a ≥ (n : Int)
        · rw [if_pos e2]
        · rw [if_neg e2]
          by_cases e3 : b < 0
          · rw [if_pos e3]
          · rw [if_neg e3, decide_eq_true (by omega)]
  · have hs' : ∀ n, ¬ Sq m n := fun n h => hs ⟨n, h⟩
    have hset : Ev (fun k => dbm_Set.f k m a b c) m := set_out hm' a b c (fun n h => absurd h (hs' n))
    rcases size_ev m with ⟨n, h1, _⟩ | ⟨_, _, h2⟩
    · exact absurd h1 (hs' n)
    · refine Ev.bind hset (Ev.bind h2 ?_)
      exact Ev.congr (fun k => by rw [if_pos (by decide)]) (out hset _)

end Go.Proofs.Ytklignhpkojmhaa.Pure
