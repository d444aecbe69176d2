/- Closed, Coherent and Holds of any lists are what the document answers. -/
import Derived.Test.YtklignhpkojmhaaM6
import Derived.Test.YtklignhpkojmhaaPx34
namespace Go.Proofs.Ytklignhpkojmhaa.Pure
open Go Go.RowKit Go.Proofs.Ytklignhpkojmhaa.P Go.Proofs.YtklignhpkojmhaaW.PrintWords Go.Proofs.YtklignhpkojmhaaW.PrintMore Go.Proofs.Ytklignhpkojmhaa.M

theorem refsame_eq : ∀ (k : Nat) (a b : List Int) (p : Int), gimbalref10_same.l0 k a b p = gimballaw10_same.l0 k a b p
  | 0, _, _, _ => rfl
  | k + 1, a, b, p => by simp only [gimbalref10_same.l0, gimballaw10_same.l0, refsame_eq k]
theorem refsame_ev {a b : List Int} (hL : a.length ≤ 17592186044416) (r : Bool) (hr : a = b → r = true) (hf : a ≠ b → r = false) : Ev (fun k => gimbalref10_same.f k a b) r := by
  unfold gimbalref10_same.f
  by_cases hl : a.length = b.length
  · refine Ev.congr (f := fun k => gimballaw10_same.l0 k a b ((0 : Nat) : Int)) (fun k => ?_) (same_go hL hl r hr hf a.length 0 rfl (by omega) (fun q hq => by omega))
    rw [if_pos (by omega), refsame_eq]
    rfl
  · have := hf (fun e => hl (by rw [e]))
    subst this
    exact Ev.congr (f := fun _ => some false) (fun k => by rw [if_neg (by omega)]) (Ev.now _)
/-- Closed. -/
theorem tells_closed (m : List Int) : ∃ b, Ev (fun k => dbm_Closed.f k m) b ∧ Ev (fun k => gimbalref10_Closed.f k m) b := by
  by_cases hs : ∃ n, Sq m n
  · obtain ⟨n, hs⟩ := hs
    have hL : m.length ≤ 256 := by rw [hs.2.2]; exact Nat.mul_le_mul hs.1 hs.1
    obtain ⟨b, hb, eb⟩ := closed_sq hs
    obtain ⟨r, hr, _⟩ := close_sq hs
    refine ⟨b, eb, ?_⟩
    unfold gimbalref10_Closed.f
    refine Ev.bind (refclose_sq hs hr) ?_
    have hf : r ≠ (m, true) → b = false := fun z => by
      rw [← Bool.not_eq_true]
      exact fun e => z (hr.unique (hb.mp e))
    cases h : r.2 with
    | false =>
      have := hf (fun z => by rw [z] at h; exact Bool.noConfusion h)
      subst this
      exact Ev.congr (f := fun _ => some false) (fun k => by rw [if_neg (by decide)]) (Ev.now _)
    | true =>
      refine Ev.congr (f := fun k => (gimbalref10_same.f k m r.1).bind fun t => some t) (fun k => by rw [if_pos rfl]) (Ev.bind (refsame_ev (by omega) b (fun e => ?_) (fun e => ?_)) (Ev.now _))
      · refine hb.mpr ?_
        have : r = (m, true) := Prod.ext e.symm h
        rwa [← this]
      · exact hf (fun z => e (by rw [z]))
  · have hs' : ∀ n, ¬ Sq m n := fun n h => hs ⟨n, h⟩
    refine ⟨false, ?_, ?_⟩
    · unfold dbm_Closed.f
      refine Ev.bind (close_none hs') ?_
      exact Ev.congr (f := fun _ => some false) (fun k => by rw [if_neg (by decide)]) (Ev.now _)
    · unfold gimbalref10_Closed.f
      refine Ev.bind (refclose_none hs') ?_
      exact Ev.congr (f := fun _ => some false) (fun k => by rw [if_neg (by decide)]) (Ev.now _)
theorem other_f : ∀ j : Nat, j < 16 → gimbalref10_other.f ((j : Nat) : Int) = some ((bar j : Nat) : Int) := by decide +kernel
/-- Coherent. -/
theorem refcoh1_ev {m : List Int} {n : Nat} (h : Sq m n) (r : Bool) {i : Nat} (hi : i < n) (hr : (∀ j, j < n → tk (at_ m n i j) = tk (at_ m n (bar j) (bar i))) → Ev (fun k => gimbalref10_Coherent.l0 k m (n : Int) ((i + 1 : Nat) : Int)) r) (hf : (∃ j, j < n ∧ tk (at_ m n i j) ≠ tk (at_ m n (bar j) (bar i))) → r = false) :
    ∀ (d c : Nat), n - c = d → c ≤ n → (∀ j, j < c → tk (at_ m n i j) = tk (at_ m n (bar j) (bar i))) → Ev (fun k => gimbalref10_Coherent.l1 k m (n : Int) (i : Int) (c : Int)) r := by
  have hn := h.1
  intro d
  induction d with
  | zero =>
    intro c hd hc g
    have : c = n := by omega
    subst this
    exact Ev.step (fun k => by simp only [gimbalref10_Coherent.l1]; rw [if_neg (by omega), w1 (by omega)]) (hr g)
  | succ d ih =>
    intro c hd hc g
    have hcn : c < n := by omega
    have hbi := bar_lt h.2.1 hi
    have hbc := bar_lt h.2.1 hcn
    have hl : (((i * n + c : Nat) : Int)) < (m.length : Int) := by rw [h.2.2]; have := ixn hi hcn; omega
    have hl2 : (((bar c * n + bar i : Nat) : Int)) < (m.length : Int) := by rw [h.2.2]; have := ixn hbc hbi; omega
    by_cases e : tk (at_ m n i c) = tk (at_ m n (bar c) (bar i))
    · refine Ev.step (fun k => by simp only [gimbalref10_Coherent.l1]; rw [if_pos (by omega), ix hn hi hcn, if_pos (by omega), if_pos hl, rd_at, reftaken, Option.bind_some, other_f c (by omega), Option.bind_some, other_f i (by omega), Option.bind_some, ix hn hbc hbi, if_pos (by omega), if_pos hl2, rd_at, reftaken, Option.bind_some, if_pos e, w1 (by omega)]) (ih (c + 1) (by omega) (by omega) (fun j hj => ?_))
      by_cases e2 : j = c
      · rw [e2]; exact e
      · exact g j (by omega)
    · have := hf ⟨c, hcn, e⟩
      subst this
      exact Ev.step (f := fun _ => some false) (fun k => by simp only [gimbalref10_Coherent.l1]; rw [if_pos (by omega), ix hn hi hcn, if_pos (by omega), if_pos hl, rd_at, reftaken, Option.bind_some, other_f c (by omega), Option.bind_some, other_f i (by omega), Option.bind_some, ix hn hbc hbi, if_pos (by omega), if_pos hl2, rd_at, reftaken, Option.bind_some, if_neg e]) (Ev.now _)
theorem refcoh0_ev {m : List Int} {n : Nat} (h : Sq m n) (r : Bool) (hr : CohP m n → r = true) (hf : ¬ CohP m n → r = false) :
    ∀ (d i : Nat), n - i = d → i ≤ n → (∀ a j, a < i → j < n → tk (at_ m n a j) = tk (at_ m n (bar j) (bar a))) → Ev (fun k => gimbalref10_Coherent.l0 k m (n : Int) (i : Int)) r := by
  intro d
  induction d with
  | zero =>
    intro i hd hi g
    have : i = n := by omega
    subst this
    have := hr (fun a j ha hj => g a j ha hj)
    subst this
    exact Ev.step (f := fun _ => some true) (fun k => by simp only [gimbalref10_Coherent.l0]; rw [if_neg (by omega)]) (Ev.now _)
  | succ d ih =>
    intro i hd hi g
    have hin : i < n := by omega
    refine Ev.step (f := fun k => gimbalref10_Coherent.l1 k m (n : Int) (i : Int) ((0 : Nat) : Int)) (fun k => by simp only [gimbalref10_Coherent.l0]; rw [if_pos (by omega)]; rfl) ?_
    refine refcoh1_ev h r hin (fun z => ih (i + 1) (by omega) (by omega) (fun a j ha hj => ?_)) (fun ⟨j, hj, hb⟩ => hf (fun z => hb (z i j hin hj))) n 0 (by omega) (by omega) (fun j hj => by omega)
    by_cases e : a = i
    · rw [e]; exact z j hj
    · exact g a j (by omega) hj
theorem tells_coherent (m : List Int) : ∃ b, Ev (fun k => dbm_Coherent.f k m) b ∧ Ev (fun k => gimbalref10_Coherent.f k m) b := by
  by_cases hs : ∃ n, Sq m n
  · obtain ⟨n, hs⟩ := hs
    obtain ⟨b, hb, eb⟩ := coh_sq hs
    refine ⟨b, eb, ?_⟩
    unfold gimbalref10_Coherent.f
    refine Ev.bind (Ev.congr (fun k => refnodes_f k m) (size_sq hs).1) ?_
    refine Ev.congr (f := fun k => gimbalref10_Coherent.l0 k m (n : Int) ((0 : Nat) : Int)) (fun k => by rw [if_pos rfl]; rfl) (refcoh0_ev hs b hb.mpr (fun z => ?_) n 0 (by omega) (by omega) (fun a j ha => by omega))
    rw [← Bool.not_eq_true]
    exact fun e => z (hb.mp e)
  · have hs' : ∀ n, ¬ Sq m n := fun n h => hs ⟨n, h⟩
    refine ⟨false, coh_none hs', ?_⟩
    rcases size_ev m with ⟨n, h1, _⟩ | ⟨_, h2, _⟩
    · exact absurd h1 (hs' n)
    · unfold gimbalref10_Coherent.f
      refine Ev.bind (Ev.congr (fun k => refnodes_f k m) h2) ?_
      exact Ev.congr (f := fun _ => some false) (fun k => by rw [if_neg (by decide)]) (Ev.now _)

/-! ### Holds -/
section
variable {m v u : List Int} {n : Nat}
/-- u lists the nodes' values. -/
def Vals (v u : List Int) : Prop := u.length = 2 * v.length ∧ ∀ i, i < 2 * v.length → u.getD i 0 = val v i
theorem refh2_ev (hn : n ≤ 16) (hm : m.length = n * n) (hv : n = 2 * v.length) (hu : Vals v u) (hR : InR v) {i : Nat} (hi : i < n) (r : Bool)
    (hr : (∀ j, j < n → GoodD m n v i j) → Ev (fun k => gimbalref10_Holds.l1 k m (n : Int) u ((i + 1 : Nat) : Int)) r) (hf : (∃ j, j < n ∧ ¬ GoodD m n v i j) → r = false) :
    ∀ (d c : Nat), n - c = d → c ≤ n → (∀ j, j < c → GoodD m n v i j) → Ev (fun k => gimbalref10_Holds.l2 k m (n : Int) u (i : Int) (c : Int)) r := by
  intro d
  induction d with
  | zero =>
    intro c hd hc h
    have : c = n := by omega
    subst this
    exact Ev.step (fun k => by simp only [gimbalref10_Holds.l2]; rw [if_neg (by omega), w1 (by omega)]) (hr h)
  | succ d ih =>
    intro c hd hc h
    have hcn : c < n := by omega
    have hl : (((i * n + c : Nat) : Int)) < (m.length : Int) := by rw [hm]; have := ixn hi hcn; omega
    have hul := hu.1
    have b1 := val_le hR (i := i) (by omega)
    have b2 := val_le hR (i := c) (by omega)
    have hrg := tk_range (at_ m n i c)
    have hw : wrap64 (val v c - val v i) = val v c - val v i := by unfold MB at *; unfold wrap64; omega
    have ei : rd u (i : Int) = val v i := by rw [rd_nat, hu.2 i (by omega)]
    have ec : rd u (c : Int) = val v c := by rw [rd_nat, hu.2 c (by omega)]
    by_cases hg : val v c - val v i > tk (at_ m n i c)
    · have : r = false := hf ⟨c, hcn, fun g => by have := g (by unfold INF MB at *; omega); omega⟩
      subst this
      exact Ev.step (f := fun _ => some false) (fun k => by simp only [gimbalref10_Holds.l2]; rw [if_pos (by omega), if_pos (by omega), if_pos (by omega), if_pos (by omega), if_pos (by omega), ix hn hi hcn, if_pos (by omega), if_pos hl, rd_at, reftaken, Option.bind_some, ei, ec, hw, if_pos hg]) (Ev.now _)
    · refine Ev.step (fun k => by simp only [gimbalref10_Holds.l2]; rw [if_pos (by omega), if_pos (by omega), if_pos (by omega), if_pos (by omega), if_pos (by omega), ix hn hi hcn, if_pos (by omega), if_pos hl, rd_at, reftaken, Option.bind_some, ei, ec, hw, if_neg hg, w1 (by omega)]) (ih (c + 1) (by omega) (by omega) (fun j hj => ?_))
      by_cases e : j = c
      · subst e; exact fun _ => by omega
      · exact h j (by omega)
theorem refh1_ev (hn : n ≤ 16) (hm : m.length = n * n) (hv : n = 2 * v.length) (hu : Vals v u) (hR : InR v) (r : Bool) (hr : Fits m n v → r = true) (hf : ¬ Fits m n v → r = false) :
    ∀ (d i : Nat), n - i = d → i ≤ n → (∀ a j, a < i → j < n → GoodD m n v a j) → Ev (fun k => gimbalref10_Holds.l1 k m (n : Int) u (i : Int)) r := by
  intro d
  induction d with
  | zero =>
    intro i hd hi h
    have : i = n := by omega
    subst this
    have := hr (fun a j ha hj => h a j ha hj)
    subst this
    exact Ev.step (f := fun _ => some true) (fun k => by simp only [gimbalref10_Holds.l1]; rw [if_neg (by omega)]) (Ev.now _)
  | succ d ih =>
    intro i hd hi h
    have hin : i < n := by omega
    refine Ev.step (f := fun k => gimbalref10_Holds.l2 k m (n : Int) u (i : Int) ((0 : Nat) : Int)) (fun k => by simp only [gimbalref10_Holds.l1]; rw [if_pos (by omega)]; rfl) ?_
    refine refh2_ev hn hm hv hu hR hin r (fun g => ih (i + 1) (by omega) (by omega) (fun a j ha hj => ?_)) (fun ⟨j, hj, hb⟩ => hf (fun g => hb (g i j hin hj))) n 0 (by omega) (by omega) (fun j hj => by omega)
    by_cases e : a = i
    · rw [e]; exact g j hj
    · exact h a j (by omega) hj
theorem refh0_ev (hn : n ≤ 16) (hm : m.length = n * n) (hv : n = 2 * v.length) (r : Bool) (hr : InR v → Fits m n v → r = true) (hf : ¬ (InR v ∧ Fits m n v) → r = false) :
    ∀ (d p : Nat) (u : List Int), v.length - p = d → p ≤ v.length → (∀ q, q < p → -MB ≤ v.getD q 0 ∧ v.getD q 0 ≤ MB) → u.length = 2 * p → (∀ i, i < 2 * p → u.getD i 0 = val v i) → Ev (fun k => gimbalref10_Holds.l0 k m v (n : Int) u (p : Int)) r := by
  intro d
  induction d with
  | zero =>
    intro p u hd hp h hu1 hu2
    have : p = v.length := by omega
    subst this
    refine Ev.step (f := fun k => gimbalref10_Holds.l1 k m (n : Int) u ((0 : Nat) : Int)) (fun k => by simp only [gimbalref10_Holds.l0]; rw [if_neg (by omega)]; rfl) ?_
    exact refh1_ev hn hm hv ⟨hu1, hu2⟩ h r (hr h) (fun g => hf (fun z => g z.2)) n 0 (by omega) (by omega) (fun a j ha => by omega)
  | succ d ih =>
    intro p u hd hp h hu1 hu2
    have hpl : p < v.length := by omega
    by_cases e1 : v.getD p 0 < -1099511627776
    · have : r = false := hf (fun z => by have := z.1 p hpl; unfold MB at this; omega)
      subst this
      exact Ev.step (f := fun _ => some false) (fun k => by simp only [gimbalref10_Holds.l0]; rw [if_pos (by omega), if_pos (by omega), rd_nat, if_pos e1]) (Ev.now _)
    · by_cases e2 : v.getD p 0 > 1099511627776
      · have : r = false := hf (fun z => by have := z.1 p hpl; unfold MB at this; omega)
        subst this
        exact Ev.step (f := fun _ => some false) (fun k => by simp only [gimbalref10_Holds.l0]; rw [if_pos (by omega), if_pos (by omega), rd_nat, if_neg e1, if_pos e2]) (Ev.now _)
      · have hw : wrap64 (-v.getD p 0) = -v.getD p 0 := by unfold wrap64; omega
        have hl1 : (u ++ [v.getD p 0]).length < 17592186044416 := by rw [List.length_append]; show u.length + 1 < _; omega
        refine Ev.step (f := fun k => gimbalref10_Holds.l0 k m v (n : Int) (u ++ [v.getD p 0] ++ [-v.getD p 0]) ((p + 1 : Nat) : Int)) (fun k => by
          simp only [gimbalref10_Holds.l0]
          rw [if_pos (by omega), if_pos (by omega), rd_nat, if_neg e1, if_neg e2, if_pos (by omega), Option.bind_some, if_pos hl1, hw, w1 (by omega)]) ?_
        refine ih (p + 1) _ (by omega) (by omega) (fun q hq => ?_) (by rw [List.length_append, List.length_append, hu1]; show 2 * p + 1 + 1 = _; omega) (fun i hi => ?_)
        · by_cases e : q = p
          · subst e; unfold MB; omega
          · exact h q (by omega)
        · rw [List.append_assoc, List.getD_eq_getElem?_getD]
          by_cases e : i < 2 * p
          · rw [List.getElem?_append_left (by omega), ← List.getD_eq_getElem?_getD]
            exact hu2 i e
          · rw [List.getElem?_append_right (by omega), hu1]
            by_cases e3 : i = 2 * p
            · subst e3
              rw [Nat.sub_self]
              unfold val
              rw [if_pos (by omega), show 2 * p / 2 = p by omega]
              rfl
            · have : i = 2 * p + 1 := by omega
              subst this
              rw [show 2 * p + 1 - 2 * p = 1 by omega]
              unfold val
              rw [if_neg (by omega), show (2 * p + 1) / 2 = p by omega]
              rfl
end
theorem tells_holds (m v : List Int) (hv : v.length ≤ 17592186044416) : ∃ b, Ev (fun k => dbm_Holds.f k m v) b ∧ Ev (fun k => gimbalref10_Holds.f k m v) b := by
  have hw : wrap64 (2 * (v.length : Int)) = 2 * (v.length : Int) := by unfold wrap64; omega
  by_cases hs : ∃ n, Sq m n
  · obtain ⟨n, hs⟩ := hs
    obtain ⟨b, hb, eb⟩ := holds_sq hs hv
    refine ⟨b, eb, ?_⟩
    have hf : ¬ HoldsP m n v → b = false := fun z => by
      rw [← Bool.not_eq_true]
      exact fun e => z (hb.mp e)
    unfold gimbalref10_Holds.f
    refine Ev.bind (Ev.congr (fun k => refnodes_f k m) (size_sq hs).1) ?_
    by_cases e : n = 2 * v.length
    · refine Ev.congr (f := fun k => gimbalref10_Holds.j0 k m v (n : Int) false) (fun k => ?_) ?_
      · rw [if_pos rfl, hw]
        have : (((n : Int), true).1 != 2 * (v.length : Int)) = false := by
          rw [bne_eq_false_iff_eq]
          show (n : Int) = _
          omega
        rw [this]
      · refine Ev.step (f := fun k => gimbalref10_Holds.l0 k m v (n : Int) [] ((0 : Nat) : Int)) (fun k => by simp only [gimbalref10_Holds.j0]; rw [if_neg (by decide)]; rfl) ?_
        exact refh0_ev hs.1 hs.2.2 e b (fun x y => hb.mpr ⟨e, x, y⟩) (fun z => hf (fun y => z y.2)) v.length 0 [] (by omega) (by omega) (fun q hq => by omega) rfl (fun i hi => by omega)
    · have : b = false := hf (fun z => e z.1)
      subst this
      refine Ev.congr (f := fun k => gimbalref10_Holds.j0 k m v (n : Int) true) (fun k => ?_) ?_
      · rw [if_pos rfl, hw]
        have : (((n : Int), true).1 != 2 * (v.length : Int)) = true := by
          rw [bne_iff_ne]
          show (n : Int) ≠ _
          omega
        rw [this]
      · exact Ev.step (f := fun _ => some false) (fun k => by simp only [gimbalref10_Holds.j0]; rw [if_pos trivial]) (Ev.now _)
  · have hs' : ∀ n, ¬ Sq m n := fun n h => hs ⟨n, h⟩
    refine ⟨false, holds_none hs', ?_⟩
    rcases size_ev m with ⟨n, h1, _⟩ | ⟨_, h2, _⟩
    · exact absurd h1 (hs' n)
    · unfold gimbalref10_Holds.f
      refine Ev.bind (Ev.congr (fun k => refnodes_f k m) h2) ?_
      refine Ev.congr (f := fun k => gimbalref10_Holds.j0 k m v 0 true) (fun k => by rw [if_neg (by decide)]) ?_
      exact Ev.step (f := fun _ => some false) (fun k => by simp only [gimbalref10_Holds.j0]; rw [if_pos trivial]) (Ev.now _)

theorem DbmTells : gimballaw10_DbmTells.Pure := by
  intro m v _ _ _ _ hv _
  obtain ⟨b1, h1, g1⟩ := tells_closed m
  obtain ⟨b2, h2, g2⟩ := tells_coherent m
  obtain ⟨b3, h3, g3⟩ := tells_holds m v (by omega)
  refine Ev.rounds (r := true) ?_
  unfold gimballaw10_DbmTells.f
  refine Ev.bind h1 (Ev.bind g1 ?_)
  refine Ev.congr (f := fun k => (dbm_Coherent.f k m).bind fun t441 => ((gimbalref10_Coherent.f k m).bind fun t442 => (if (t441 == t442) = true then ((dbm_Holds.f k m v).bind fun t443 => ((gimbalref10_Holds.f k m v).bind fun t444 => (if (t443 == t444) = true then ((gimballaw10_awake.f k).bind fun t445 => (some t445)) else (some false)))) else (some false)))) (fun k => by rw [if_pos (beq_self_eq_true b1)]) ?_
  refine Ev.bind h2 (Ev.bind g2 ?_)
  refine Ev.congr (f := fun k => (dbm_Holds.f k m v).bind fun t443 => ((gimbalref10_Holds.f k m v).bind fun t444 => (if (t443 == t444) = true then ((gimballaw10_awake.f k).bind fun t445 => (some t445)) else (some false)))) (fun k => by rw [if_pos (beq_self_eq_true b2)]) ?_
  refine Ev.bind h3 (Ev.bind g3 ?_)
  exact Ev.congr (f := fun k => (gimballaw10_awake.f k).bind fun t => some t) (fun k => by rw [if_pos (beq_self_eq_true b3)]) (Ev.bind awake_ev (Ev.now _))

end Go.Proofs.Ytklignhpkojmhaa.Pure
