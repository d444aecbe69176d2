/- Holds answers by its words: the values are as many as the size asks, each within the bounds, and every difference is at most its entry. -/
import Derived.Test.YtklignhpkojmhaaM3
import Derived.Test.YtklignhpkojmhaaPx23
namespace Go.Proofs.Ytklignhpkojmhaa.Pure
open Go Go.RowKit Go.Proofs.Ytklignhpkojmhaa.P Go.Proofs.YtklignhpkojmhaaW.PrintWords Go.Proofs.YtklignhpkojmhaaW.PrintMore Go.Proofs.Ytklignhpkojmhaa.M

section
variable {m v : List Int} {n : Nat} {b : Bool}
theorem meets_end (N : Int) (i : Int) (hb : Ev (fun k => dbm_Holds.f k m v) b) : Ev (fun k => gimballaw10_DbmMeets.j2 k m v N b i false) true := by
  refine Ev.step (f := fun k => (dbm_Holds.f k m v).bind fun t => if (t == b) = true then (gimballaw10_awake.f k).bind fun t => some t else some false) (fun k => by simp only [gimballaw10_DbmMeets.j2]; rw [if_neg (by decide)]) ?_
  refine Ev.bind hb ?_
  refine Ev.congr (f := fun k => (gimballaw10_awake.f k).bind fun t => some t) (fun k => ?_) (Ev.bind awake_ev (Ev.now _))
  rw [if_pos (beq_self_eq_true b)]
theorem meets_off (N : Int) (i : Int) (hb : Ev (fun k => dbm_Holds.f k m v) b) (hf : b = false) : Ev (fun k => gimballaw10_DbmMeets.l1 k m v N false i) true := by
  subst hf
  exact Ev.step (fun k => by simp only [gimballaw10_DbmMeets.l1]; rw [if_neg (by decide)]) (meets_end N i hb)
theorem good_iff (hR : InR v) {i j : Nat} (hi : i < 2 * v.length) (hj : j < 2 * v.length) : GoodD m n v i j ↔ val v j - val v i ≤ tk (at_ m n i j) := by
  have h1 := val_le hR hi
  have h2 := val_le hR hj
  have h3 := tk_range (at_ m n i j)
  unfold GoodD
  constructor
  · intro h
    by_cases e : tk (at_ m n i j) < INF
    · exact h e
    · unfold INF MB at *; omega
  · exact fun h _ => h
theorem meets_2 (hn : n ≤ 16) (hm : m.length = n * n) (hv : n = 2 * v.length) (hR : InR v) (hb : (∀ i j, i < n → j < n → ¬ GoodD m n v i j → b = false)) {i : Nat} (hi : i < n)
    (hr : ∀ f : Bool, (f = true → ∀ j, j < n → GoodD m n v i j) → (f = false → b = false) → Ev (fun k => gimballaw10_DbmMeets.l1 k m v (n : Int) f ((i + 1 : Nat) : Int)) true) :
    ∀ (d c : Nat) (f : Bool), n - c = d → c ≤ n → (f = true → ∀ j, j < c → GoodD m n v i j) → (f = false → b = false) → Ev (fun k => gimballaw10_DbmMeets.l2 k m v (n : Int) f (i : Int) (c : Int)) true := by
  have out : ∀ (c : Nat) (f : Bool), (f = true → ∀ j, j < n → GoodD m n v i j) → (f = false → b = false) → Ev (fun k => gimballaw10_DbmMeets.j4 k m v (n : Int) f (i : Int) (c : Int) false) true := fun c f h1 h2 =>
    Ev.step (fun k => by simp only [gimballaw10_DbmMeets.j4]; rw [if_neg (by decide), w1 (by omega)]) (hr f h1 h2)
  intro d
  induction d with
  | zero =>
    intro c f hd hc h1 h2
    have : c = n := by omega
    subst this
    exact Ev.step (fun k => by simp only [gimballaw10_DbmMeets.l2]; rw [if_neg (by omega)]) (out c f h1 h2)
  | succ d ih =>
    intro c f hd hc h1 h2
    have hcn : c < n := by omega
    cases f with
    | false => exact Ev.step (fun k => by simp only [gimballaw10_DbmMeets.l2]; rw [if_pos (by omega)]) (out c false (fun z => absurd z (by decide)) h2)
    | true =>
      refine Ev.step (f := fun k => gimballaw10_DbmMeets.j4 k m v (n : Int) true (i : Int) (c : Int) true) (fun k => by simp only [gimballaw10_DbmMeets.l2]; rw [if_pos (by omega)]) ?_
      have hl : (((i * n + c : Nat) : Int)) < (m.length : Int) := by rw [hm]; have := ixn hi hcn; omega
      have gi := good_iff (m := m) (n := n) hR (i := i) (j := c) (by omega) (by omega)
      have b1 := hR (i / 2) (by omega)
      have b2 := hR (c / 2) (by omega)
      refine Ev.step (f := fun k => gimballaw10_DbmMeets.l2 k m v (n : Int) (decide (val v c - val v i ≤ tk (at_ m n i c))) (i : Int) ((c + 1 : Nat) : Int)) (fun k => ?_) (ih (c + 1) _ (by omega) (by omega) (fun e j hj => ?_) (fun e => ?_))
      · simp only [gimballaw10_DbmMeets.j4]
        rw [if_pos trivial, tdiv2, tdiv2, wid (by omega), wid (by omega), if_pos (by omega), if_pos (by omega), if_pos (by omega), if_pos (by omega), tmod2, tmod2, rd_nat, rd_nat, ix hn hi hcn, rd_at, law_taken, w1 (by omega)]
        simp only [Option.bind_some]
        have w2 : ∀ x : Int, -MB ≤ x ∧ x ≤ MB → wrap64 (-x) = -x := by intro x hx; unfold MB at hx; unfold wrap64; omega
        have w3 : ∀ x y : Int, -MB ≤ x ∧ x ≤ MB → -MB ≤ y ∧ y ≤ MB → wrap64 (x - y) = x - y := by intro x y hx hy; unfold MB at *; unfold wrap64; omega
        have w4 : ∀ x : Int, -MB ≤ x ∧ x ≤ MB → -MB ≤ -x ∧ -x ≤ MB := by intro x hx; omega
        unfold val
        by_cases e1 : i % 2 = 0
        · rw [if_neg (by omega), if_pos e1]
          by_cases e2 : c % 2 = 0
          · rw [if_neg (by omega), if_pos e2, if_pos (by omega), if_pos hl, w3 _ _ b2 b1]
          · rw [if_pos (by omega), if_neg e2, if_pos (by omega), if_pos hl, w2 _ b2, w3 _ _ (w4 _ b2) b1]
        · rw [if_pos (by omega), if_neg e1]
          by_cases e2 : c % 2 = 0
          · rw [if_neg (by omega), if_pos e2, if_pos (by omega), if_pos hl, w2 _ b1, w3 _ _ b2 (w4 _ b1)]
          · rw [if_pos (by omega), if_neg e2, if_pos (by omega), if_pos hl, w2 _ b2, w2 _ b1, w3 _ _ (w4 _ b2) (w4 _ b1)]
      · by_cases e3 : j = c
        · subst e3
          exact gi.mpr (of_decide_eq_true e)
        · exact h1 rfl j (by omega)
      · exact hb i c hi hcn (fun g => absurd (gi.mp g) (of_decide_eq_false e))
theorem meets_1 (hn : n ≤ 16) (hm : m.length = n * n) (hE : Ev (fun k => dbm_Holds.f k m v) b) (hb : b = true ↔ HoldsP m n v) :
    ∀ (d i : Nat) (f : Bool), n - i = d → i ≤ n → (f = true → n = 2 * v.length ∧ InR v ∧ ∀ a j, a < i → j < n → GoodD m n v a j) → (f = false → b = false) → Ev (fun k => gimballaw10_DbmMeets.l1 k m v (n : Int) f (i : Int)) true := by
  have no : ∀ i j, i < n → j < n → ¬ GoodD m n v i j → b = false := fun i j hi hj hg => by
    rw [← Bool.not_eq_true]
    exact fun e => hg ((hb.mp e).2.2 i j hi hj)
  intro d
  induction d with
  | zero =>
    intro i f hd hi h1 h2
    have : i = n := by omega
    subst this
    cases f with
    | false => exact meets_off _ _ hE (h2 rfl)
    | true =>
      obtain ⟨g1, g2, g3⟩ := h1 rfl
      have : b = true := hb.mpr ⟨g1, g2, fun a j ha hj => g3 a j ha hj⟩
      subst this
      exact Ev.step (fun k => by simp only [gimballaw10_DbmMeets.l1]; rw [if_pos trivial, decide_eq_false (by omega)]) (meets_end _ _ hE)
  | succ d ih =>
    intro i f hd hi h1 h2
    have hin : i < n := by omega
    cases f with
    | false => exact meets_off _ _ hE (h2 rfl)
    | true =>
      obtain ⟨g1, g2, g3⟩ := h1 rfl
      refine Ev.step (f := fun k => gimballaw10_DbmMeets.j2 k m v (n : Int) true (i : Int) true) (fun k => by simp only [gimballaw10_DbmMeets.l1]; rw [if_pos trivial, decide_eq_true (by omega)]) ?_
      refine Ev.step (f := fun k => gimballaw10_DbmMeets.l2 k m v (n : Int) true (i : Int) ((0 : Nat) : Int)) (fun k => by simp only [gimballaw10_DbmMeets.j2]; rw [if_pos trivial]; rfl) ?_
      refine meets_2 hn hm g1 g2 no hin (fun f hf hf' => ih (i + 1) f (by omega) (by omega) (fun e => ⟨g1, g2, fun a j ha hj => ?_⟩) hf') n 0 true (by omega) (by omega) (fun _ j hj => by omega) (fun z => absurd z (by decide))
      by_cases e2 : a = i
      · rw [e2]; exact hf e j hj
      · exact g3 a j (by omega) hj
theorem meets_0 (N : Int) (hv : v.length ≤ 17592186044416) (hb : (∃ p, p < v.length ∧ ¬ (-MB ≤ v.getD p 0 ∧ v.getD p 0 ≤ MB)) → b = false) (G : Prop) (hr : ∀ f : Bool, (f = true → G ∧ InR v) → (f = false → b = false) → Ev (fun k => gimballaw10_DbmMeets.l1 k m v N f ((0 : Nat) : Int)) true) :
    ∀ (d p : Nat) (f : Bool), v.length - p = d → p ≤ v.length → (f = true → G ∧ ∀ q, q < p → -MB ≤ v.getD q 0 ∧ v.getD q 0 ≤ MB) → (f = false → b = false) → Ev (fun k => gimballaw10_DbmMeets.l0 k m v N f (p : Int)) true := by
  have w1' : ∀ p : Nat, p < v.length → wrap64 ((p : Int) + 1) = ((p + 1 : Nat) : Int) := by intro p hp; unfold wrap64; omega
  intro d
  induction d with
  | zero =>
    intro p f hd hp h1 h2
    have : p = v.length := by omega
    subst this
    exact Ev.step (fun k => by simp only [gimballaw10_DbmMeets.l0]; rw [if_neg (by omega)]; rfl) (hr f h1 h2)
  | succ d ih =>
    intro p f hd hp h1 h2
    have hpl : p < v.length := by omega
    cases f with
    | false => exact Ev.step (fun k => by simp only [gimballaw10_DbmMeets.l0]; rw [if_pos (by omega), if_neg (by decide), w1' p hpl]) (ih (p + 1) false (by omega) (by omega) (fun z => absurd z (by decide)) h2)
    | true =>
      obtain ⟨g1, g2⟩ := h1 rfl
      by_cases e : v.getD p 0 ≥ -1099511627776
      · refine Ev.step (fun k => by simp only [gimballaw10_DbmMeets.l0]; rw [if_pos (by omega), if_pos trivial, if_pos (by omega), rd_nat, if_pos e, w1' p hpl]) (ih (p + 1) (decide (v.getD p 0 ≤ 1099511627776)) (by omega) (by omega) (fun z => ⟨g1, fun q hq => ?_⟩) (fun z => ?_))
        · have := of_decide_eq_true z
          by_cases e2 : q = p
          · subst e2; unfold MB; omega
          · exact g2 q (by omega)
        · have := of_decide_eq_false z
          exact hb ⟨p, hpl, fun y => by unfold MB at y; omega⟩
      · refine Ev.step (fun k => by simp only [gimballaw10_DbmMeets.l0]; rw [if_pos (by omega), if_pos trivial, if_pos (by omega), rd_nat, if_neg e, w1' p hpl]) (ih (p + 1) false (by omega) (by omega) (fun z => absurd z (by decide)) (fun _ => hb ⟨p, hpl, fun y => by unfold MB at y; omega⟩))
end

theorem DbmMeets : gimballaw10_DbmMeets.Pure := by
  intro m v _ _ _ _ hv _
  have hv' : v.length ≤ 17592186044416 := by omega
  have hw : wrap64 (2 * (v.length : Int)) = 2 * (v.length : Int) := by unfold wrap64; omega
  refine Ev.rounds (r := true) ?_
  unfold gimballaw10_DbmMeets.f
  by_cases hs : ∃ n, Sq m n
  · obtain ⟨n, hs⟩ := hs
    obtain ⟨b, hb, eb⟩ := holds_sq hs hv'
    refine Ev.bind (size_sq hs).2 ?_
    rw [hw]
    refine meets_0 (b := b) (n : Int) hv' (fun ⟨p, hp, hno⟩ => ?_) (n = 2 * v.length) (fun f h1 h2 => meets_1 hs.1 hs.2.2 eb hb n 0 f (by omega) (by omega) (fun e => ⟨(h1 e).1, (h1 e).2, fun a j ha => by omega⟩) h2) v.length 0 _ (by omega) (by omega) (fun e => ⟨?_, fun q hq => by omega⟩) (fun e => ?_)
    · rw [← Bool.not_eq_true]
      exact fun e => hno ((hb.mp e).2.1 p hp)
    · have := eq_of_beq e
      omega
    · rw [← Bool.not_eq_true]
      intro z
      have h1 := (hb.mp z).1
      rw [h1] at e
      simp at e
  · have hs' : ∀ n, ¬ Sq m n := fun n h => hs ⟨n, h⟩
    have hE := holds_none (v := v) hs'
    rcases size_ev m with ⟨n, h1, _⟩ | ⟨_, _, h2⟩
    · exact absurd h1 (hs' n)
    · refine Ev.bind h2 ?_
      rw [hw]
      refine meets_0 (b := false) (-1) hv' (fun _ => rfl) False (fun f h1 h2 => ?_) v.length 0 _ (by omega) (by omega) (fun e => ?_) (fun _ => rfl)
      · cases f with
        | false => exact meets_off _ _ hE rfl
        | true => exact (h1 rfl).1.elim
      · have := eq_of_beq e
        omega

end Go.Proofs.Ytklignhpkojmhaa.Pure
