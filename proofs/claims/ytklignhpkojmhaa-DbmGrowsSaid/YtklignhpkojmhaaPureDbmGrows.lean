/- Close is monotone: where entries grow, the closure's entries grow, and what closes goes on closing. -/
import Derived.Test.YtklignhpkojmhaaM3
import Derived.Test.YtklignhpkojmhaaPx25
namespace Go.Proofs.Ytklignhpkojmhaa.Pure
open Go Go.RowKit Go.Proofs.Ytklignhpkojmhaa.P Go.Proofs.YtklignhpkojmhaaW.PrintWords Go.Proofs.YtklignhpkojmhaaW.PrintMore Go.Proofs.Ytklignhpkojmhaa.M

theorem tail_ev : Ev (fun k => (gimballaw10_awake.f k).bind fun t => some t) true := Ev.bind awake_ev (Ev.now _)
theorem closed_none {m : List Int} (h : ∀ n, ¬ Sq m n) : Ev (fun k => dbm_Closed.f k m) false := by
  unfold dbm_Closed.f
  refine Ev.bind (close_none h) ?_
  exact Ev.congr (f := fun _ => some false) (fun k => by rw [if_neg (by decide)]) (Ev.now _)
theorem grows_off (x y : List Int) (i : Int) : Ev (fun k => gimballaw10_DbmGrows.l1 k x false y i) true :=
  Ev.step (f := fun k => gimballaw10_DbmGrows.j3 k x false y i false) (fun k => by simp only [gimballaw10_DbmGrows.l1]; rw [if_neg (by decide)])
    (Ev.step (fun k => by simp only [gimballaw10_DbmGrows.j3]; rw [if_neg (by decide)]) tail_ev)
theorem grows_le (x y : List Int) (hx : x.length ≤ 256) (hy : y.length = x.length) (h : ∀ p, p < x.length → x.getD p 0 ≤ y.getD p 0) : ∀ (d p : Nat), x.length - p = d → p ≤ x.length → Ev (fun k => gimballaw10_DbmGrows.l1 k x true y (p : Int)) true := by
  intro d
  induction d with
  | zero =>
    intro p hd hp
    refine Ev.step (f := fun k => gimballaw10_DbmGrows.j3 k x true y (p : Int) false) (fun k => by simp only [gimballaw10_DbmGrows.l1]; rw [if_pos trivial, decide_eq_false (by omega)]) ?_
    exact Ev.step (fun k => by simp only [gimballaw10_DbmGrows.j3]; rw [if_neg (by decide)]) tail_ev
  | succ d ih =>
    intro p hd hp
    have hpl : p < x.length := by omega
    have := h p hpl
    refine Ev.step (f := fun k => gimballaw10_DbmGrows.j3 k x true y (p : Int) true) (fun k => by simp only [gimballaw10_DbmGrows.l1]; rw [if_pos trivial, decide_eq_true (by omega)]) ?_
    exact Ev.step (fun k => by simp only [gimballaw10_DbmGrows.j3]; rw [if_pos trivial, if_pos (by omega), if_pos (by omega), if_pos (by omega), rd_nat, rd_nat, if_neg (by omega), w1 (by omega)]) (ih (p + 1) (by omega) (by omega))
theorem at_getD {l : List Int} {n p : Nat} (hp : p < n * n) : ∃ i j, i < n ∧ j < n ∧ at_ l n i j = l.getD p 0 := by
  have hn : 0 < n := by
    rcases Nat.eq_zero_or_pos n with h0 | h0
    · subst h0; simp at hp
    · exact h0
  refine ⟨p / n, p % n, by rw [Nat.div_lt_iff_lt_mul hn]; exact hp, Nat.mod_lt _ hn, ?_⟩
  unfold at_
  rw [Nat.mul_comm, Nat.div_add_mod]

theorem grows_math {a c : List Int} {n : Nat} (ha : Sq a n) (hc : c.length = a.length) (hm : ∀ p, p < a.length → tk (a.getD p 0) ≤ c.getD p 0 ∧ tk (c.getD p 0) = c.getD p 0) {r0 r1 : List Int × Bool} (h0 : CT a n r0) (h1 : CT c n r1) :
    r0 = ([], false) ∨ (r0.2 = true ∧ r1.2 = true ∧ r0.1.length = n * n ∧ r1.1.length = r0.1.length ∧ ∀ p, p < r0.1.length → r0.1.getD p 0 ≤ r1.1.getD p 0) := by
  have le : ∀ i j, i < n → j < n → M0 a n i j ≤ M0 c n i j := by
    have one : ∀ i j, i < n → j < n → tk (at_ a n i j) ≤ tk (at_ c n i j) := by
      intro i j hi hj
      have := hm (i * n + j) (by rw [ha.2.2]; exact ixn hi hj)
      unfold at_
      omega
    intro i j hi hj
    unfold M0
    split
    · have := one i i hi hi
      omega
    · exact one i j hi hj
  rcases h0 with ⟨rfl, _⟩ | ⟨D, hD, g1, g2, g3⟩
  · exact .inl rfl
  · refine .inr ?_
    rcases h1 with ⟨rfl, i, l, w, hw, hneg⟩ | ⟨D', hD', k1, k2, k3⟩
    · obtain ⟨w', q1, q2⟩ := hw.mono le
      have := hD.pos q2
      omega
    · refine ⟨g1, k1, g2, k2.trans g2.symm, fun p hp => ?_⟩
      rw [g2] at hp
      have hn : 0 < n := by
        rcases Nat.eq_zero_or_pos n with h0 | h0
        · subst h0; simp at hp
        · exact h0
      have hi : p / n < n := by rw [Nat.div_lt_iff_lt_mul hn]; exact hp
      have hj : p % n < n := Nat.mod_lt _ hn
      have e : ∀ l : List Int, l.getD p 0 = at_ l n (p / n) (p % n) := fun l => by unfold at_; rw [Nat.mul_comm, Nat.div_add_mod]
      rw [e, e, g3 _ _ hi hj, k3 _ _ hi hj]
      apply tk_mono
      by_cases hf : D' (p / n) (p % n) < INF
      · obtain ⟨l, hw⟩ := hD'.walk _ _ hi hj hf
        obtain ⟨w', q1, q2⟩ := hw.mono le
        have := (hD.le q2).2
        omega
      · have := hD.inf _ _ hi hj
        omega

theorem grows_0 {a b : List Int} {n : Nat} (ha : Sq a n) : ∀ (d p : Nat) (c : List Int), a.length - p = d → p ≤ a.length → c.length = p → (∀ q, q < p → tk (a.getD q 0) ≤ c.getD q 0 ∧ tk (c.getD q 0) = c.getD q 0) → Ev (fun k => gimballaw10_DbmGrows.l0 k a b c (p : Int)) true := by
  have hL : a.length ≤ 256 := by rw [ha.2.2]; exact Nat.mul_le_mul ha.1 ha.1
  intro d
  induction d with
  | zero =>
    intro p c hd hp hc h
    have : p = a.length := by omega
    subst this
    have hsc : Sq c n := ⟨ha.1, ha.2.1, hc.trans ha.2.2⟩
    obtain ⟨r0, h0, e0⟩ := close_sq ha
    obtain ⟨r1, h1, e1⟩ := close_sq hsc
    refine Ev.step (fun k => by simp only [gimballaw10_DbmGrows.l0]; rw [if_neg (by omega)]) (Ev.bind e0 (Ev.bind e1 ?_))
    have fin : ∀ x8 x9 x10, Ev (fun k => gimballaw10_DbmGrows.l1 k x8 x9 x10 ((0 : Nat) : Int)) true → Ev (fun k => gimballaw10_DbmGrows.j1 k x8 x9 x10 false) true := fun x8 x9 x10 hh =>
      Ev.step (fun k => by simp only [gimballaw10_DbmGrows.j1]; rw [if_neg (by decide)]; rfl) hh
    rcases grows_math ha hc h h0 h1 with rfl | ⟨g1, g2, g3, g4, g5⟩
    · refine Ev.congr (f := fun k => gimballaw10_DbmGrows.j1 k [] false r1.1 false) (fun k => ?_) (fin _ _ _ (grows_off _ _ _))
      rw [if_neg (by decide)]
    · refine Ev.congr (f := fun k => gimballaw10_DbmGrows.j1 k r0.1 true r1.1 false) (fun k => ?_) (fin _ _ _ (grows_le _ _ ?_ g4 g5 _ 0 rfl (by omega)))
      · rw [if_pos g1, g1, g2]; rfl
      · rw [g3, ← ha.2.2]; exact hL
  | succ d ih =>
    intro p c hd hp hc h
    have hpl : p < a.length := by omega
    have push : ∀ t : Int, tk (a.getD p 0) ≤ t → tk t = t → Ev (fun k => gimballaw10_DbmGrows.l0 k a b (c ++ [t]) ((p + 1 : Nat) : Int)) true := fun t h1 h2 => by
      refine ih (p + 1) (c ++ [t]) (by omega) (by omega) (by rw [List.length_append, hc]; rfl) (fun q hq => ?_)
      by_cases e : q = p
      · subst e
        have : (c ++ [t]).getD q 0 = t := by
          rw [List.getD_eq_getElem?_getD, List.getElem?_append_right (by omega), hc, Nat.sub_self]; rfl
        rw [this]
        exact ⟨h1, h2⟩
      · have : (c ++ [t]).getD q 0 = c.getD q 0 := by
          rw [List.getD_eq_getElem?_getD, List.getD_eq_getElem?_getD, List.getElem?_append_left (by omega)]
        rw [this]
        exact h q (by omega)
    by_cases hb : p < b.length
    · by_cases hgt : tk (b.getD p 0) > tk (a.getD p 0)
      · exact Ev.step (fun k => by simp only [gimballaw10_DbmGrows.l0]; rw [if_pos (by omega), if_pos (by omega), rd_nat, law_taken]; simp only [Option.bind_some]; rw [if_pos (by omega), rd_nat, law_taken]; simp only [Option.bind_some]; rw [if_pos hgt, if_pos (by omega), w1 (by omega)]) (push _ (by omega) (tk_tk _))
      · exact Ev.step (fun k => by simp only [gimballaw10_DbmGrows.l0]; rw [if_pos (by omega), if_pos (by omega), rd_nat, law_taken]; simp only [Option.bind_some]; rw [if_pos (by omega), rd_nat, law_taken]; simp only [Option.bind_some]; rw [if_neg hgt, if_pos (by omega), w1 (by omega)]) (push _ (by omega) (tk_tk _))
    · exact Ev.step (fun k => by simp only [gimballaw10_DbmGrows.l0]; rw [if_pos (by omega), if_pos (by omega), rd_nat, law_taken]; simp only [Option.bind_some]; rw [if_neg (by omega), if_pos (by omega), w1 (by omega)]) (push _ (by omega) (tk_tk _))

theorem DbmGrows : gimballaw10_DbmGrows.Pure := by
  intro a b _ _ _ _ _ _
  refine Ev.rounds (r := true) ?_
  unfold gimballaw10_DbmGrows.f
  by_cases hs : ∃ n, Sq a n
  · obtain ⟨n, hs⟩ := hs
    refine Ev.bind (size_sq hs).2 ?_
    refine Ev.congr (f := fun k => gimballaw10_DbmGrows.l0 k a b [] ((0 : Nat) : Int)) (fun k => ?_) (grows_0 hs a.length 0 [] rfl (by omega) rfl (fun q hq => by omega))
    rw [if_neg (by omega)]
    rfl
  · have hs' : ∀ n, ¬ Sq a n := fun n h => hs ⟨n, h⟩
    rcases size_ev a with ⟨n, h1, _⟩ | ⟨_, _, h2⟩
    · exact absurd h1 (hs' n)
    · refine Ev.bind h2 ?_
      refine Ev.congr (f := fun k => (dbm_Closed.f k a).bind fun t => if t = true then some false else (gimballaw10_awake.f k).bind fun t => some t) (fun k => ?_) (Ev.bind (closed_none hs') ?_)
      · rw [if_pos (by decide)]
      · exact Ev.congr (fun k => by rw [if_neg (by decide)]) tail_ev

end Go.Proofs.Ytklignhpkojmhaa.Pure
