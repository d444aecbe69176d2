/- What the document's Close computes: the same closure. -/
import Derived.Test.YtklignhpkojmhaaM5
import Derived.Test.YtklignhpkojmhaaPx19
namespace Go.Proofs.Ytklignhpkojmhaa.M
open Go Go.RowKit Go.Proofs.Ytklignhpkojmhaa.P Go.Proofs.YtklignhpkojmhaaW.PrintWords Go.Proofs.YtklignhpkojmhaaW.PrintMore Go.Proofs.YtklignhpkojmhaaO

theorem reftaken (a : Int) : gimbalref10_Taken.f a = some (tk a) := by
  unfold gimbalref10_Taken.f tk MB INF
  (repeat' split) <;> rfl
theorem allTaken_go {x : List Int} (hL : x.length ≤ 1000) : ∀ (d p : Nat) (y : List Int), x.length - p = d → p ≤ x.length → y = (x.map tk).take p → Ev (fun k => gimbalref10_allTaken.l0 k x y (p : Int)) (x.map tk) := by
  intro d
  induction d with
  | zero =>
    intro p y hd hp hy
    have : p = x.length := by omega
    subst this
    have : y = x.map tk := by rw [hy, ← List.length_map (f := tk), List.take_length]
    subst this
    exact Ev.step (f := fun _ => some (x.map tk)) (fun k => by simp only [gimbalref10_allTaken.l0]; rw [if_neg (by omega)]) (Ev.now _)
  | succ d ih =>
    intro p y hd hp hy
    have hpl : p < x.length := by omega
    have hy2 : y ++ [tk (x.getD p 0)] = (x.map tk).take (p + 1) := by
      rw [hy, List.take_add_one, List.getElem?_map, List.getElem?_eq_getElem hpl, List.getD_eq_getElem?_getD, List.getElem?_eq_getElem hpl]
      rfl
    have hyl : y.length ≤ 1000 := by rw [hy, List.length_take]; omega
    exact Ev.step (fun k => by simp only [gimbalref10_allTaken.l0]; rw [if_pos (by omega), if_pos (by omega), rd_nat, reftaken, Option.bind_some, if_pos (by omega), w1 (by omega)]) (ih (p + 1) _ (by omega) (by omega) hy2)
theorem allTaken_ev {x : List Int} (hL : x.length ≤ 1000) : Ev (fun k => gimbalref10_allTaken.f k x) (x.map tk) := allTaken_go hL x.length 0 [] rfl (by omega) rfl

section
variable {n : Nat} {y : List Int}
/-- v stands at (i, j) when the nodes below c have been tried. -/
def Done (y : List Int) (n i j c : Nat) (v : Int) : Prop := v ≤ at_ y n i j ∧ (∀ k, k < c → at_ y n i k < INF → at_ y n k j < INF → v ≤ at_ y n i k + at_ y n k j) ∧ (v = at_ y n i j ∨ ∃ k, k < n ∧ at_ y n i k < INF ∧ at_ y n k j < INF ∧ v = at_ y n i k + at_ y n k j)
def Part (y z : List Int) (n i j : Nat) : Prop := z.length = n * n ∧ ∀ a b, a < n → b < n → ((a < i ∨ (a = i ∧ b < j)) → Done y n a b n (at_ z n a b)) ∧ (¬ (a < i ∨ (a = i ∧ b < j)) → at_ z n a b = at_ y n a b)
variable {B : Int}
theorem r4_ev (hn : n ≤ 16) (hB : 2 * B < INF) (hy : y.length = n * n) (hb : ∀ a b, a < n → b < n → at_ y n a b = INF ∨ (-B ≤ at_ y n a b ∧ at_ y n a b ≤ B)) {i j : Nat} (hi : i < n) (hj : j < n) (s : Int) (r : List Int × Bool) (hr : ∀ z, Part y z n i (j + 1) → Ev (fun k => gimbalref10_Close.l3 k (n : Int) y s z (i : Int) ((j + 1 : Nat) : Int)) r) :
    ∀ (d c : Nat) (z : List Int), n - c = d → c ≤ n → z.length = n * n → (∀ a b, a < n → b < n → ¬ (a = i ∧ b = j) → ((a < i ∨ (a = i ∧ b < j)) → Done y n a b n (at_ z n a b)) ∧ (¬ (a < i ∨ (a = i ∧ b < j)) → at_ z n a b = at_ y n a b)) → Done y n i j c (at_ z n i j) → Ev (fun k => gimbalref10_Close.l4 k (n : Int) y s z (i : Int) (j : Int) (c : Int)) r := by
  intro d
  induction d with
  | zero =>
    intro c z hd hc hz h g
    have : c = n := by omega
    subst this
    refine Ev.step (fun k => by simp only [gimbalref10_Close.l4]; rw [if_neg (by omega), w1 (by omega)]) (hr z ⟨hz, fun a b ha hb => ⟨fun q => ?_, fun q => ?_⟩⟩)
    · by_cases e : a = i ∧ b = j
      · obtain ⟨rfl, rfl⟩ := e
        exact g
      · exact (h a b ha hb e).1 (by omega)
    · exact (h a b ha hb (by omega)).2 (by omega)
  | succ d ih =>
    intro c z hd hc hz h g
    have hcn : c < n := by omega
    have l1 : (((i * n + c : Nat) : Int)) < (y.length : Int) := by rw [hy]; have := ixn hi hcn; omega
    have l2 : (((c * n + j : Nat) : Int)) < (y.length : Int) := by rw [hy]; have := ixn hcn hj; omega
    have l3 : (((i * n + j : Nat) : Int)) < (z.length : Int) := by rw [hz]; have := ixn hi hj; omega
    have b1 := hb i c hi hcn
    have b2 := hb c j hcn hj
    have g1 := g.1
    have g2 := g.2.1
    have skip : (at_ y n i c < INF → at_ y n c j < INF → at_ z n i j ≤ at_ y n i c + at_ y n c j) → Ev (fun k => gimbalref10_Close.l4 k (n : Int) y s z (i : Int) (j : Int) ((c + 1 : Nat) : Int)) r := fun q => ih (c + 1) z (by omega) (by omega) hz h ⟨g1, fun k hk h1 h2 => by
      by_cases e : k = c
      · subst e; exact q h1 h2
      · exact g2 k (by omega) h1 h2, g.2.2⟩
    by_cases f1 : at_ y n i c < INF
    · by_cases f2 : at_ y n c j < INF
      · have hw : wrap64 (at_ y n i c + at_ y n c j) = at_ y n i c + at_ y n c j := by unfold INF at *; unfold wrap64; omega
        by_cases f3 : at_ y n i c + at_ y n c j < at_ z n i j
        · refine Ev.step (f := fun k => gimbalref10_Close.l4 k (n : Int) y s (z.set (i * n + j) (at_ y n i c + at_ y n c j)) (i : Int) (j : Int) ((c + 1 : Nat) : Int)) (fun k => by
            simp only [gimbalref10_Close.l4]
            rw [if_pos (by omega), ix hn hi hcn, if_pos (by omega), if_pos l1, ix hn hcn hj, if_pos (by omega), if_pos l2, rd_at, rd_at, if_pos f1, if_pos f2, ix hn hi hj, if_pos (by omega), if_pos l3, rd_at, hw, if_pos f3, Int.toNat_natCast, w1 (by omega)]) ?_
          refine ih (c + 1) _ (by omega) (by omega) (by rw [List.length_set]; exact hz) (fun a b ha hb' e => ?_) ?_
          · rw [at_set hz hi hj hb', if_neg (fun q => e ⟨q.1.symm, q.2.symm⟩)]
            exact h a b ha hb' e
          · rw [at_set hz hi hj hj, if_pos ⟨rfl, rfl⟩]
            refine ⟨by omega, fun k hk h1 h2 => ?_, .inr ⟨c, hcn, f1, f2, rfl⟩⟩
            by_cases e : k = c
            · subst e; exact Int.le_refl _
            · have := g2 k (by omega) h1 h2
              omega
        · exact Ev.step (fun k => by
            simp only [gimbalref10_Close.l4]
            rw [if_pos (by omega), ix hn hi hcn, if_pos (by omega), if_pos l1, ix hn hcn hj, if_pos (by omega), if_pos l2, rd_at, rd_at, if_pos f1, if_pos f2, ix hn hi hj, if_pos (by omega), if_pos l3, rd_at, hw, if_neg f3, w1 (by omega)]) (skip (fun _ _ => by omega))
      · exact Ev.step (fun k => by
            simp only [gimbalref10_Close.l4]
            rw [if_pos (by omega), ix hn hi hcn, if_pos (by omega), if_pos l1, ix hn hcn hj, if_pos (by omega), if_pos l2, rd_at, rd_at, if_pos f1, if_neg f2, w1 (by omega)]) (skip (fun _ q => absurd q f2))
    · exact Ev.step (fun k => by
            simp only [gimbalref10_Close.l4]
            rw [if_pos (by omega), ix hn hi hcn, if_pos (by omega), if_pos l1, ix hn hcn hj, if_pos (by omega), if_pos l2, rd_at, if_neg f1, w1 (by omega)]) (skip (fun q _ => absurd q f1))
theorem r3_ev (hn : n ≤ 16) (hB : 2 * B < INF) (hy : y.length = n * n) (hb : ∀ a b, a < n → b < n → at_ y n a b = INF ∨ (-B ≤ at_ y n a b ∧ at_ y n a b ≤ B)) {i : Nat} (hi : i < n) (s : Int) (r : List Int × Bool) (hr : ∀ z, Part y z n (i + 1) 0 → Ev (fun k => gimbalref10_Close.l2 k (n : Int) y s z ((i + 1 : Nat) : Int)) r) :
    ∀ (d j : Nat) (z : List Int), n - j = d → j ≤ n → Part y z n i j → Ev (fun k => gimbalref10_Close.l3 k (n : Int) y s z (i : Int) (j : Int)) r := by
  intro d
  induction d with
  | zero =>
    intro j z hd hj h
    have : j = n := by omega
    subst this
    refine Ev.step (fun k => by simp only [gimbalref10_Close.l3]; rw [if_neg (by omega), w1 (by omega)]) (hr z ⟨h.1, fun a b ha hb => ⟨fun q => (h.2 a b ha hb).1 (by omega), fun q => (h.2 a b ha hb).2 (by omega)⟩⟩)
  | succ d ih =>
    intro j z hd hj h
    have hjn : j < n := by omega
    refine Ev.step (f := fun k => gimbalref10_Close.l4 k (n : Int) y s z (i : Int) (j : Int) ((0 : Nat) : Int)) (fun k => by simp only [gimbalref10_Close.l3]; rw [if_pos (by omega)]; rfl) ?_
    refine r4_ev hn hB hy hb hi hjn s r (fun z' h' => ih (j + 1) z' (by omega) (by omega) h') n 0 z (by omega) (by omega) h.1 (fun a b ha hb _ => h.2 a b ha hb) ?_
    have := (h.2 i j hi hjn).2 (by omega)
    exact ⟨by omega, fun k hk => by omega, .inl this⟩
theorem r2_ev (hn : n ≤ 16) (hB : 2 * B < INF) (hy : y.length = n * n) (hb : ∀ a b, a < n → b < n → at_ y n a b = INF ∨ (-B ≤ at_ y n a b ∧ at_ y n a b ≤ B)) (s : Int) (r : List Int × Bool) (hr : ∀ z, z.length = n * n → (∀ a b, a < n → b < n → Done y n a b n (at_ z n a b)) → Ev (fun k => gimbalref10_Close.l0 k (n : Int) z (wrap64 (2 * s))) r) :
    ∀ (d i : Nat) (z : List Int), n - i = d → i ≤ n → Part y z n i 0 → Ev (fun k => gimbalref10_Close.l2 k (n : Int) y s z (i : Int)) r := by
  intro d
  induction d with
  | zero =>
    intro i z hd hi h
    have : i = n := by omega
    subst this
    exact Ev.step (fun k => by simp only [gimbalref10_Close.l2]; rw [if_neg (by omega)]) (hr z h.1 (fun a b ha hb => (h.2 a b ha hb).1 (.inl ha)))
  | succ d ih =>
    intro i z hd hi h
    have hin : i < n := by omega
    refine Ev.step (f := fun k => gimbalref10_Close.l3 k (n : Int) y s z (i : Int) ((0 : Nat) : Int)) (fun k => by simp only [gimbalref10_Close.l2]; rw [if_pos (by omega)]; rfl) ?_
    exact r3_ev hn hB hy hb hin s r (fun z' h' => ih (i + 1) z' (by omega) (by omega) h') n 0 z (by omega) (by omega) h

/-- x as the next round will take it. -/
def adj (x : List Int) (n i j : Nat) : Int := if i = j then min (at_ x n i i) 0 else at_ x n i j
/-- The state ahead of a round: ways of at most 2^t steps have been seen. -/
structure Seen (M : Nat → Nat → Int) (n t : Nat) (x : List Int) : Prop where
  len : x.length = n * n
  short : ∀ i j l w, l ≤ 2 ^ t → Wk M n i j l w → adj x n i j < INF ∧ adj x n i j ≤ w
  way : ∀ i j, i < n → j < n → adj x n i j < INF → ∃ l, Wk M n i j l (adj x n i j)
  bnd : ∀ i j, i < n → j < n → at_ x n i j = INF ∨ (-(MB * ((2 ^ t : Nat) : Int)) ≤ at_ x n i j ∧ at_ x n i j ≤ MB * ((2 ^ t : Nat) : Int))
  low : 1 ≤ t → ∀ i, i < n → at_ x n i i ≤ 0
theorem two_step {M : Nat → Nat → Int} {t : Nat} {x z : List Int} (ht : t ≤ 5) (h : Seen M n t x) (hy : ∀ a b, a < n → b < n → at_ y n a b = adj x n a b) (hz : z.length = n * n) (hd : ∀ a b, a < n → b < n → Done y n a b n (at_ z n a b)) : Seen M n (t + 1) z := by
  have hp : (2 ^ t : Nat) ≤ 32 ∧ 0 < (2 ^ t : Nat) := ⟨Nat.pow_le_pow_right (n := 2) (by omega) ht, Nat.pos_of_ne_zero (by simp)⟩
  have e2 : (2 ^ (t + 1) : Nat) = 2 * 2 ^ t := by rw [Nat.pow_succ]; omega
  have yb : ∀ a b, a < n → b < n → at_ y n a b = INF ∨ (-(MB * ((2 ^ t : Nat) : Int)) ≤ at_ y n a b ∧ at_ y n a b ≤ MB * ((2 ^ t : Nat) : Int)) := by
    intro a b ha hb
    rw [hy a b ha hb]
    unfold adj
    split
    · have := h.bnd a a ha ha
      unfold INF MB at *
      omega
    · exact h.bnd a b ha hb
  have ylt : ∀ a b, a < n → b < n → at_ y n a b < INF → -(MB * ((2 ^ t : Nat) : Int)) ≤ at_ y n a b ∧ at_ y n a b ≤ MB * ((2 ^ t : Nat) : Int) := by
    intro a b ha hb hf
    rcases yb a b ha hb with q | q
    · omega
    · exact q
  have adj_le : ∀ a b, adj z n a b ≤ at_ z n a b := by
    intro a b
    unfold adj
    split
    · rename_i e; subst e; omega
    · exact Int.le_refl _
  refine ⟨hz, fun i j l w hl hw => ?_, fun i j hi hj hf => ?_, fun i j hi hj => ?_, fun _ i hi => ?_⟩
  · obtain ⟨p, q, p0, q0, pl, ql, hpq⟩ := hw.points
    have key : ∀ a, a ≤ l → a ≤ 2 ^ t → l - a ≤ 2 ^ t → adj z n i j < INF ∧ adj z n i j ≤ w := by
      intro a ha h1 h2
      have wa := hpq 0 a (by omega) ha
      have wb := hpq a l ha (Nat.le_refl _)
      rw [p0, q0] at wa
      rw [pl, ql] at wb
      have hi := wa.src
      have hk := wa.dst
      have hj := wb.dst
      have s1 := h.short i (p a) (a - 0) _ (by omega) wa
      have s2 := h.short (p a) j (l - a) _ h2 wb
      rw [← hy i (p a) hi hk] at s1
      rw [← hy (p a) j hk hj] at s2
      have := (hd i j hi hj).2.1 (p a) hk s1.1 s2.1
      have b1 := ylt i (p a) hi hk s1.1
      have b2 := ylt (p a) j hk hj s2.1
      have := adj_le i j
      unfold INF MB at *
      omega
    by_cases hc : l ≤ 2 ^ t
    · exact key l (Nat.le_refl _) hc (by omega)
    · exact key (2 ^ t) (by omega) (Nat.le_refl _) (by omega)
  · have zw : at_ z n i j < INF → ∃ l, Wk M n i j l (at_ z n i j) := by
      intro hf
      rcases (hd i j hi hj).2.2 with e | ⟨k, hk, f1, f2, e⟩
      · rw [e, hy i j hi hj] at hf ⊢
        exact h.way i j hi hj hf
      · rw [hy i k hi hk] at f1 e
        rw [hy k j hk hj] at f2 e
        obtain ⟨l1, w1⟩ := h.way i k hi hk f1
        obtain ⟨l2, w2⟩ := h.way k j hk hj f2
        rw [e]
        exact ⟨_, w1.append w2⟩
    unfold adj at hf ⊢
    split
    · rename_i e
      subst e
      by_cases e0 : at_ z n i i < 0
      · rw [show min (at_ z n i i) 0 = at_ z n i i by omega]
        exact zw (by unfold INF; omega)
      · rw [show min (at_ z n i i) 0 = 0 by omega]
        exact ⟨0, Wk.nil hi⟩
    · rename_i e
      rw [if_neg e] at hf
      exact zw hf
  · rw [e2]
    have hle := (hd i j hi hj).1
    rcases (hd i j hi hj).2.2 with e | ⟨k, hk, f1, f2, e⟩
    · rw [e]
      have := yb i j hi hj
      unfold INF MB at *
      omega
    · have b1 := ylt i k hi hk f1
      have b2 := ylt k j hk hj f2
      rw [e]
      unfold INF MB at *
      omega
  · have h1 := (hd i i hi hi).1
    rw [hy i i hi hi] at h1
    unfold adj at h1
    rw [if_pos rfl] at h1
    omega

/-- The diagonal. -/
theorem r1_ev (hn : n ≤ 16) {x : List Int} (hx : x.length = n * n) (s : Int) (r : List Int × Bool)
    (hr : ∀ y : List Int, y.length = n * n → (∀ i j, i < n → j < n → at_ y n i j = adj x n i j) → Ev (fun k => gimbalref10_Close.l2 k (n : Int) y s y ((0 : Nat) : Int)) r)
    (hf : (∃ i, i < n ∧ at_ x n i i < 0) → r = ([], false)) : ∀ (d p : Nat) (y : List Int), n - p = d → p ≤ n → y.length = n * n → (∀ i j, i < n → j < n → at_ y n i j = if i = j ∧ i < p then 0 else at_ x n i j) → (∀ i, i < p → 0 ≤ at_ x n i i) →
      Ev (fun k => gimbalref10_Close.l1 k (n : Int) y s (p : Int)) r := by
  intro d
  induction d with
  | zero =>
    intro p y hd hp hy h hpos
    have : p = n := by omega
    subst this
    have hL : p * p ≤ 256 := Nat.mul_le_mul hn hn
    refine Ev.step (f := fun k => gimbalref10_Close.l2 k (p : Int) y s y ((0 : Nat) : Int)) (fun k => by
      simp only [gimbalref10_Close.l1]
      rw [if_neg (by omega)]
      unfold gimbalref10_copied.f
      rw [if_pos (by rw [hy]; show 0 + _ < _; omega), Option.bind_some, List.nil_append]
      rfl) (hr y hy (fun i j hi hj => ?_))
    rw [h i j hi hj]
    unfold adj
    by_cases e : i = j
    · subst e
      rw [if_pos ⟨rfl, hi⟩, if_pos rfl]
      have := hpos i hi
      omega
    · rw [if_neg (fun z => e z.1), if_neg e]
  | succ d ih =>
    intro p y hd hp hy h hpos
    have hpn : p < n := by omega
    have hl1 : (((p * n + p : Nat) : Int)) < (y.length : Int) := by rw [hy]; have := ixn hpn hpn; omega
    have e1 : at_ y n p p = at_ x n p p := by rw [h p p hpn hpn, if_neg (by omega)]
    by_cases hneg : at_ x n p p < 0
    · have : r = ([], false) := hf ⟨p, hpn, hneg⟩
      subst this
      exact Ev.step (f := fun _ => some ([], false)) (fun k => by simp only [gimbalref10_Close.l1]; rw [if_pos (by omega), ix hn hpn hpn, if_pos (by omega), if_pos hl1, rd_at, if_pos (by rw [e1]; exact hneg)]) (Ev.now _)
    · refine Ev.step (f := fun k => gimbalref10_Close.l1 k (n : Int) (y.set (p * n + p) 0) s ((p + 1 : Nat) : Int)) (fun k => by simp only [gimbalref10_Close.l1]; rw [if_pos (by omega), ix hn hpn hpn, if_pos (by omega), if_pos hl1, rd_at, if_neg (by rw [e1]; exact hneg), Int.toNat_natCast, w1 (by omega)]) ?_
      refine ih (p + 1) _ (by omega) (by omega) (by rw [List.length_set]; exact hy) (fun i j hi hj => ?_) (fun i hi => ?_)
      · rw [at_set hy hpn hpn hj, h i j hi hj]
        by_cases e : p = i ∧ p = j
        · obtain ⟨rfl, rfl⟩ := e
          rw [if_pos ⟨rfl, rfl⟩, if_pos ⟨rfl, by omega⟩]
        · rw [if_neg e]
          by_cases e2 : i = j ∧ i < p
          · rw [if_pos e2, if_pos ⟨e2.1, by omega⟩]
          · rw [if_neg e2, if_neg (by rintro ⟨rfl, h3⟩; exact e2 ⟨rfl, by omega⟩)]
      · by_cases e : i = p
        · subst e; omega
        · exact hpos i (by omega)
/-- The end. -/
theorem r5_ev (hn : n ≤ 16) {x : List Int} (hx : x.length = n * n) (r : List Int × Bool) (hr : (∀ i, i < n → 0 ≤ at_ x n i i) → r = (x.map tk, true)) (hf : (∃ i, i < n ∧ at_ x n i i < 0) → r = ([], false)) :
    ∀ (d p : Nat), n - p = d → p ≤ n → (∀ i, i < p → 0 ≤ at_ x n i i) → Ev (fun k => gimbalref10_Close.l5 k (n : Int) x (p : Int)) r := by
  intro d
  induction d with
  | zero =>
    intro p hd hp h
    have : p = n := by omega
    subst this
    have := hr h
    subst this
    have hL : x.length ≤ 1000 := by rw [hx]; have : p * p ≤ 256 := Nat.mul_le_mul hn hn; omega
    exact Ev.step (f := fun k => (gimbalref10_allTaken.f k x).bind fun t => some (t, true)) (fun k => by simp only [gimbalref10_Close.l5]; rw [if_neg (by omega)]) (Ev.bind (allTaken_ev hL) (Ev.now _))
  | succ d ih =>
    intro p hd hp h
    have hpn : p < n := by omega
    have hl1 : (((p * n + p : Nat) : Int)) < (x.length : Int) := by rw [hx]; have := ixn hpn hpn; omega
    by_cases hneg : at_ x n p p < 0
    · have : r = ([], false) := hf ⟨p, hpn, hneg⟩
      subst this
      exact Ev.step (f := fun _ => some ([], false)) (fun k => by simp only [gimbalref10_Close.l5]; rw [if_pos (by omega), ix hn hpn hpn, if_pos (by omega), if_pos hl1, rd_at, if_pos hneg]) (Ev.now _)
    · exact Ev.step (fun k => by simp only [gimbalref10_Close.l5]; rw [if_pos (by omega), ix hn hpn hpn, if_pos (by omega), if_pos hl1, rd_at, if_neg hneg, w1 (by omega)]) (ih (p + 1) (by omega) (by omega) (fun i hi => by
        by_cases e : i = p
        · subst e; omega
        · exact h i (by omega)))

theorem seen_neg {M : Nat → Nat → Int} {t : Nat} {x : List Int} (h : Seen M n t x) (hf : ∃ i, i < n ∧ at_ x n i i < 0) : Neg M n := by
  obtain ⟨i, hi, hneg⟩ := hf
  have e : adj x n i i = at_ x n i i := by unfold adj; rw [if_pos rfl]; omega
  obtain ⟨l, hw⟩ := h.way i i hi hi (by rw [e]; unfold INF; omega)
  rw [e] at hw
  exact ⟨i, l, _, hw, hneg⟩
/-- All rounds. -/
theorem r0_ev (hn : n ≤ 16) {m : List Int} (r : List Int × Bool) (hr : CT m n r) : ∀ (d t : Nat) (x : List Int), 6 - t = d → t ≤ 6 → Seen (M0 m n) n t x → Ev (fun k => gimbalref10_Close.l0 k (n : Int) x ((2 ^ t : Nat) : Int)) r := by
  have hf : Neg (M0 m n) n → r = ([], false) := fun h => hr.unique (.inl ⟨rfl, h⟩)
  have out : ∀ (t : Nat) (x : List Int), 2 * n < 2 ^ t → t ≤ 6 → Seen (M0 m n) n t x → Ev (fun k => gimbalref10_Close.l0 k (n : Int) x ((2 ^ t : Nat) : Int)) r := by
    intro t x ht ht6 h
    have hw2 : wrap64 (2 * (n : Int)) = 2 * (n : Int) := by unfold wrap64; omega
    refine Ev.step (f := fun k => gimbalref10_Close.l5 k (n : Int) x ((0 : Nat) : Int)) (fun k => by simp only [gimbalref10_Close.l0]; rw [hw2, if_neg (by omega)]; rfl) ?_
    refine r5_ev hn h.len r (fun hpos => ?_) (fun q => hf (seen_neg h q)) n 0 (by omega) (by omega) (fun i hi => by omega)
    have ei : ∀ i j, i < n → j < n → at_ x n i j = adj x n i j := by
      intro i j hi hj
      unfold adj
      split
      · rename_i e
        subst e
        have t1 : 1 ≤ t := by
          rcases Nat.eq_zero_or_pos t with q | q
          · subst q; simp at ht; omega
          · exact q
        have := h.low t1 i hi
        have := hpos i hi
        omega
      · rfl
    have cl : Closure (M0 m n) (adj x n) n := closure_of_short (L := 2 ^ t) (by omega) (fun i j l w hl hw => h.short i j l w hl hw) h.way (fun i j hi hj => by
        rw [← ei i j hi hj]
        have := h.bnd i j hi hj
        have : (2 ^ t : Nat) ≤ 64 := Nat.pow_le_pow_right (n := 2) (by omega) ht6
        unfold INF MB at *
        omega) (fun i hi => by rw [← ei i i hi hi]; exact hpos i hi)
    exact hr.unique (.inr ⟨adj x n, cl, rfl, by rw [List.length_map]; exact h.len, fun i j hi hj => by rw [at_map h.len hi hj, ei i j hi hj]⟩)
  intro d
  induction d with
  | zero =>
    intro t x hd ht h
    have : t = 6 := by omega
    subst this
    exact out 6 x (by omega) (by omega) h
  | succ d ih =>
    intro t x hd ht h
    by_cases hc : 2 * n < 2 ^ t
    · exact out t x hc ht h
    · have ht5 : t ≤ 5 := by omega
      have hp : (2 ^ t : Nat) ≤ 32 := Nat.pow_le_pow_right (n := 2) (by omega) ht5
      have hw2 : wrap64 (2 * (n : Int)) = 2 * (n : Int) := by unfold wrap64; omega
      have e2 : (2 ^ (t + 1) : Nat) = 2 * 2 ^ t := by rw [Nat.pow_succ]; omega
      have hws : wrap64 (2 * ((2 ^ t : Nat) : Int)) = ((2 ^ (t + 1) : Nat) : Int) := by rw [e2]; unfold wrap64; omega
      refine Ev.step (f := fun k => gimbalref10_Close.l1 k (n : Int) x ((2 ^ t : Nat) : Int) ((0 : Nat) : Int)) (fun k => by simp only [gimbalref10_Close.l0]; rw [hw2, if_pos (by omega)]; rfl) ?_
      refine r1_ev hn h.len _ r (fun y hy hyy => ?_) (fun q => hf (seen_neg h q)) n 0 x (by omega) (by omega) h.len (fun i j hi hj => by rw [if_neg (by omega)]) (fun i hi => by omega)
      have yb : ∀ a b, a < n → b < n → at_ y n a b = INF ∨ (-(MB * ((2 ^ t : Nat) : Int)) ≤ at_ y n a b ∧ at_ y n a b ≤ MB * ((2 ^ t : Nat) : Int)) := by
        intro a b ha hb
        rw [hyy a b ha hb]
        unfold adj
        split
        · have := h.bnd a a ha ha
          unfold INF MB at *
          omega
        · exact h.bnd a b ha hb
      refine r2_ev (B := MB * ((2 ^ t : Nat) : Int)) hn (by unfold INF MB; omega) hy yb _ r (fun z hz hd => ?_) n 0 y (by omega) (by omega) ⟨hy, fun a b ha hb => ⟨fun q => by omega, fun _ => rfl⟩⟩
      rw [hws]
      exact ih (t + 1) z (by omega) (by omega) (two_step ht5 h hyy hz hd)
theorem seen_0 {m : List Int} (hm : m.length = n * n) : Seen (M0 m n) n 0 (m.map tk) := by
  have e : ∀ i j, i < n → j < n → adj (m.map tk) n i j = M0 m n i j := by
    intro i j hi hj
    unfold adj M0
    rw [at_map hm hi hi, at_map hm hi hj]
  refine ⟨by rw [List.length_map]; exact hm, fun i j l w hl hw => ?_, fun i j hi hj hf => ?_, fun i j hi hj => ?_, fun q => by omega⟩
  · rw [Nat.pow_zero] at hl
    have hi := hw.src
    have hj := hw.dst
    rw [e i j hi hj]
    cases hw with
    | nil => unfold M0; rw [if_pos rfl]; unfold INF; omega
    | cons hi hM hw =>
      cases hw with
      | nil => exact ⟨hM, by omega⟩
      | cons _ _ _ => omega
  · rw [e i j hi hj] at hf ⊢
    exact ⟨1, Wk.edge hi hj hf⟩
  · rw [at_map hm hi hj]
    have := tk_range (at_ m n i j)
    simp only [Nat.pow_zero]
    unfold MB at *
    omega
theorem refnodes_eq : ∀ (k : Nat) (l : List Int) (x : Int), gimbalref10_Nodes.l0 k l x = dbm_size.l0 k l x
  | 0, _, _ => rfl
  | k + 1, l, x => by simp only [gimbalref10_Nodes.l0, dbm_size.l0, refnodes_eq k]
theorem refnodes_f (k : Nat) (l : List Int) : gimbalref10_Nodes.f k l = dbm_size.f k l := refnodes_eq k l 0
/-- The document's Close answers what the program's Close answers. -/
theorem refclose_sq {m : List Int} (h : Sq m n) {r : List Int × Bool} (hr : CT m n r) : Ev (fun k => gimbalref10_Close.f k m) r := by
  have hL : m.length ≤ 256 := by rw [h.2.2]; exact Nat.mul_le_mul h.1 h.1
  unfold gimbalref10_Close.f
  refine Ev.bind (Ev.congr (fun k => refnodes_f k m) (size_sq h).1) ?_
  refine Ev.congr (f := fun k => (gimbalref10_allTaken.f k m).bind fun t265 => gimbalref10_Close.l0 k (n : Int) t265 1) (fun k => by rw [if_pos rfl]) ?_
  exact Ev.bind (allTaken_ev (by omega)) (r0_ev h.1 r hr 6 0 _ (by omega) (by omega) (seen_0 h.2.2))
theorem refclose_none {m : List Int} (h : ∀ n, ¬ Sq m n) : Ev (fun k => gimbalref10_Close.f k m) ([], false) := by
  rcases size_ev m with ⟨n, h1, _⟩ | ⟨_, h2, _⟩
  · exact absurd h1 (h n)
  · unfold gimbalref10_Close.f
    refine Ev.bind (Ev.congr (fun k => refnodes_f k m) h2) ?_
    exact Ev.congr (f := fun _ => some ([], false)) (fun k => by rw [if_neg (by decide)]) (Ev.now _)
end
end Go.Proofs.Ytklignhpkojmhaa.M
