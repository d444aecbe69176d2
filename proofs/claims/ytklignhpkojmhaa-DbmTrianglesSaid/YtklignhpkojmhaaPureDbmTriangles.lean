/- A matrix is Closed just if its diagonal is 0, its entries are taken as they are, and each is at most each sum by way of a third node. -/
import Derived.Test.YtklignhpkojmhaaM5
import Derived.Test.YtklignhpkojmhaaPx26
namespace Go.Proofs.Ytklignhpkojmhaa.M
open Go Go.RowKit Go.Proofs.Ytklignhpkojmhaa.P Go.Proofs.YtklignhpkojmhaaW.PrintWords Go.Proofs.YtklignhpkojmhaaW.PrintMore

/-- A way all of whose steps are as p says. -/
inductive WkA (M : Nat → Nat → Int) (n : Nat) (p : Int → Prop) : Nat → Nat → Nat → Int → Prop
  | nil {i : Nat} : i < n → WkA M n p i i 0 0
  | cons {i k j l : Nat} {w : Int} : i < n → M i k < INF → p (M i k) → WkA M n p k j l w → WkA M n p i j (l + 1) (M i k + w)
section
variable {a : Nat → Nat → Int} {n : Nat}
theorem WkA.wk {p : Int → Prop} {i j l : Nat} {w : Int} (h : WkA a n p i j l w) : Wk a n i j l w := by
  induction h with
  | nil h => exact Wk.nil h
  | cons hi hM _ _ ih => exact Wk.cons hi hM ih
theorem WkA.pos {i j l : Nat} {w : Int} (h : WkA a n (fun x => 0 ≤ x) i j l w) : 0 ≤ w := by
  induction h with
  | nil h => exact Int.le_refl _
  | cons hi hM hp _ ih => omega
theorem WkA.neg {i j l : Nat} {w : Int} (h : WkA a n (fun x => x ≤ 0) i j l w) : w ≤ 0 := by
  induction h with
  | nil h => exact Int.le_refl _
  | cons hi hM hp _ ih => omega
variable (hr : ∀ i j, i < n → j < n → a i j = INF ∨ (-MB ≤ a i j ∧ a i j ≤ MB)) (ht : ∀ i k j, i < n → k < n → j < n → a i k < INF → a k j < INF → a i j ≤ tk (a i k + a k j))
include hr ht
omit hr in
theorem merge2 {i k q : Nat} (hi : i < n) (hk : k < n) (hq : q < n) (h1 : a i k < INF) (h2 : a k q < INF) (hl : -MB ≤ a i k + a k q) (hu : a i k + a k q ≤ MB) : a i q < INF ∧ a i q ≤ a i k + a k q := by
  have h := ht i k q hi hk hq h1 h2
  have : tk (a i k + a k q) = a i k + a k q := by
    unfold tk
    rw [if_neg (by omega), if_neg (by omega)]
  rw [this] at h
  unfold INF MB at *
  omega
theorem shape {i j l : Nat} {w : Int} (h : Wk a n i j l w) : (∃ l' w', l = l' + 1 ∧ w' ≤ w ∧ Wk a n i j l' w') ∨ WkA a n (fun x => 0 ≤ x) i j l w ∨ WkA a n (fun x => x ≤ 0) i j l w := by
  induction h with
  | nil hi => exact .inr (.inl (WkA.nil hi))
  | @cons i k j l w hi hM hw ih =>
    have hk := hw.src
    have b1 := hr i k hi hk
    rcases ih with ⟨l', w', rfl, h2, h3⟩ | h | h
    · exact .inl ⟨l' + 1, a i k + w', rfl, by omega, Wk.cons hi hM h3⟩
    · by_cases e : 0 ≤ a i k
      · exact .inr (.inl (WkA.cons hi hM e h))
      · cases h with
        | nil _ => exact .inr (.inr (WkA.cons hi hM (by show a i k ≤ 0; omega) (WkA.nil hk)))
        | @cons _ q _ l w _ hM2 hp2 h2 =>
          have hq := h2.wk.src
          have b2 := hr k q hk hq
          have hp2 : 0 ≤ a k q := hp2
          have := merge2 ht hi hk hq hM hM2 (by unfold INF MB at *; omega) (by unfold INF MB at *; omega)
          exact .inl ⟨l + 1, a i q + w, rfl, by omega, Wk.cons hi this.1 h2.wk⟩
    · by_cases e : a i k ≤ 0
      · exact .inr (.inr (WkA.cons hi hM e h))
      · cases h with
        | nil _ => exact .inr (.inl (WkA.cons hi hM (by show 0 ≤ a i k; omega) (WkA.nil hk)))
        | @cons _ q _ l w _ hM2 hp2 h2 =>
          have hq := h2.wk.src
          have b2 := hr k q hk hq
          have hp2 : a k q ≤ 0 := hp2
          have := merge2 ht hi hk hq hM hM2 (by unfold INF MB at *; omega) (by unfold INF MB at *; omega)
          exact .inl ⟨l + 1, a i q + w, rfl, by omega, Wk.cons hi this.1 h2.wk⟩
theorem ways_le (h0 : ∀ i, i < n → a i i = 0) : ∀ (l : Nat) {i j : Nat} {w : Int}, Wk a n i j l w → a i j ≤ tk w := by
  have hle : ∀ i j, i < n → j < n → a i j ≤ INF := fun i j hi hj => by have := hr i j hi hj; unfold INF MB at *; omega
  intro l
  induction l with
  | zero =>
    intro i j w h
    cases h with
    | nil hi => rw [h0 i hi]; decide
  | succ l ih =>
    intro i j w h
    have hi := h.src
    have hj := h.dst
    by_cases hw : w > MB
    · have : tk w = INF := by unfold tk; rw [if_pos hw]
      rw [this]
      exact hle i j hi hj
    · have low : -MB ≤ tk w := by have := tk_range w; unfold INF MB at *; omega
      rcases shape hr ht h with ⟨l', w', e, h2, h3⟩ | h | h
      · have : l' = l := by omega
        subst this
        have := ih h3
        have := tk_mono h2
        omega
      · cases h with
        | @cons _ k _ _ w1 _ hM hp h1 =>
          have hk := h1.wk.src
          cases h1 with
          | nil _ => rw [Int.add_zero]; exact le_tk (by omega)
          | @cons _ q _ l w2 _ hM2 hp2 h2 =>
            have hq := h2.wk.src
            have hp : 0 ≤ a i k := hp
            have hp2 : 0 ≤ a k q := hp2
            have := h2.pos
            have g := merge2 ht hi hk hq hM hM2 (by unfold MB; omega) (by omega)
            have e1 := ih (Wk.cons hi g.1 h2.wk)
            have e2 := tk_mono (show a i q + w2 ≤ a i k + (a k q + w2) by omega)
            omega
      · cases h with
        | @cons _ k _ _ w1 _ hM hp h1 =>
          have hk := h1.wk.src
          cases h1 with
          | nil _ => rw [Int.add_zero]; exact le_tk (by omega)
          | @cons _ q _ l w2 _ hM2 hp2 h2 =>
            have hq := h2.wk.src
            have hp : a i k ≤ 0 := hp
            have hp2 : a k q ≤ 0 := hp2
            have hw2 := h2.neg
            by_cases hc : -MB ≤ a i k + a k q
            · have g := merge2 ht hi hk hq hM hM2 hc (by unfold MB; omega)
              have e1 := ih (Wk.cons hi g.1 h2.wk)
              have e2 := tk_mono (show a i q + w2 ≤ a i k + (a k q + w2) by omega)
              omega
            · have g := ht i k q hi hk hq hM hM2
              have : tk (a i k + a k q) = -MB := by
                unfold tk
                rw [if_neg (by unfold MB at *; omega), if_pos (by omega)]
              rw [this] at g
              have e1 := ih (Wk.cons hi (show a i q < INF by unfold INF MB at *; omega) h2.wk)
              have e2 := tk_mono (show a i q + w2 ≤ -MB by omega)
              have e3 : tk (-MB) = -MB := by decide
              omega
end

def TG (m : List Int) (n i j k : Nat) : Prop := tk (at_ m n i k) < INF → tk (at_ m n k j) < INF → at_ m n i j ≤ tk (tk (at_ m n i k) + tk (at_ m n k j))
def ColG (m : List Int) (n i j : Nat) : Prop := at_ m n i j = tk (at_ m n i j) ∧ ∀ k, k < n → TG m n i j k
def RowG (m : List Int) (n i : Nat) : Prop := at_ m n i i = 0 ∧ ∀ j, j < n → ColG m n i j
def TriP (m : List Int) (n : Nat) : Prop := ∀ i, i < n → RowG m n i
theorem tri_closed {m : List Int} {n : Nat} (hs : Sq m n) : CT m n (m, true) ↔ TriP m n := by
  constructor
  · rintro (⟨h, _⟩ | ⟨D, hD, _, _, h3⟩)
    · exact Bool.noConfusion (show true = false from congrArg Prod.snd h)
    · have h3 : ∀ i j, i < n → j < n → at_ m n i j = tk (D i j) := h3
      have fin : ∀ i j, i < n → j < n → tk (D i j) < INF → D i j < INF := by
        intro i j hi hj h
        rcases Int.lt_or_eq_of_le (hD.inf i j hi hj) with q | q
        · exact q
        · rw [q] at h; exact absurd h (by decide)
      intro i hi
      refine ⟨by rw [h3 i i hi hi, hD.diag i hi]; decide, fun j hj => ⟨by rw [h3 i j hi hj, tk_tk], fun k hk f1 f2 => ?_⟩⟩
      rw [h3 i k hi hk, tk_tk] at f1 ⊢
      rw [h3 k j hk hj, tk_tk] at f2 ⊢
      rw [h3 i j hi hj]
      have t := (hD.tri i k j hi hk hj (fin i k hi hk f1) (fin k j hk hj f2)).2
      have l1 := le_tk (hD.inf i k hi hk)
      have l2 := le_tk (hD.inf k j hk hj)
      exact tk_mono (by omega)
  · intro h
    have e1 : ∀ i j, i < n → j < n → tk (at_ m n i j) = at_ m n i j := fun i j hi hj => ((h i hi).2 j hj).1.symm
    have eM : ∀ i j, i < n → j < n → M0 m n i j = at_ m n i j := by
      intro i j hi hj
      unfold M0
      by_cases e : i = j
      · subst e
        rw [if_pos rfl, (h i hi).1]
        decide
      · rw [if_neg e, e1 i j hi hj]
    have hr : ∀ i j, i < n → j < n → M0 m n i j = INF ∨ (-MB ≤ M0 m n i j ∧ M0 m n i j ≤ MB) := by
      intro i j hi hj
      rw [eM i j hi hj, ← e1 i j hi hj]
      exact tk_range _
    have ht : ∀ i k j, i < n → k < n → j < n → M0 m n i k < INF → M0 m n k j < INF → M0 m n i j ≤ tk (M0 m n i k + M0 m n k j) := by
      intro i k j hi hk hj f1 f2
      have := ((h i hi).2 j hj).2 k hk
      unfold TG at this
      rw [e1 i k hi hk, e1 k j hk hj] at this
      rw [eM i k hi hk] at f1 ⊢
      rw [eM k j hk hj] at f2 ⊢
      rw [eM i j hi hj]
      exact this f1 f2
    have h0 : ∀ i, i < n → M0 m n i i = 0 := fun i hi => by rw [eM i i hi hi, (h i hi).1]
    have hw : ∀ {i j l : Nat} {w : Int}, Wk (M0 m n) n i j l w → M0 m n i j ≤ tk w := fun hw => ways_le hr ht h0 _ hw
    obtain ⟨r, hr', _⟩ := close_sq hs
    rcases hr' with ⟨rfl, i, l, w, hc, hneg⟩ | ⟨D, hD, h1, h2, h3⟩
    · have := hw hc
      rw [h0 i hc.src] at this
      unfold tk at this
      rw [if_neg (by unfold MB; omega)] at this
      unfold MB at this
      split at this <;> omega
    · refine .inr ⟨D, hD, rfl, hs.2.2, fun i j hi hj => ?_⟩
      show at_ m n i j = tk (D i j)
      rw [← eM i j hi hj]
      have a1 : M0 m n i j ≤ tk (D i j) := by
        by_cases hf : D i j < INF
        · obtain ⟨l, hc⟩ := hD.walk i j hi hj hf
          exact hw hc
        · have : D i j = INF := by have := hD.inf i j hi hj; omega
          rw [this]
          have := hr i j hi hj
          have e : tk INF = INF := by decide
          rw [e]
          unfold INF MB at *
          omega
      have a2 : tk (D i j) ≤ M0 m n i j := by
        by_cases hf : M0 m n i j < INF
        · have := tk_mono (hD.edges i j hi hj hf).2
          rw [eM i j hi hj, e1 i j hi hj] at this
          rw [eM i j hi hj]
          exact this
        · have := tk_inf (D i j)
          omega
      omega
end Go.Proofs.Ytklignhpkojmhaa.M

namespace Go.Proofs.Ytklignhpkojmhaa.Pure
open Go Go.RowKit Go.Proofs.Ytklignhpkojmhaa.P Go.Proofs.YtklignhpkojmhaaW.PrintWords Go.Proofs.YtklignhpkojmhaaW.PrintMore Go.Proofs.Ytklignhpkojmhaa.M

section
variable {m : List Int} {b : Bool}
theorem tri_end (N : Int) (i : Int) (hb : Ev (fun k => dbm_Closed.f k m) b) : Ev (fun k => gimballaw10_DbmTriangles.j1 k m N b i false) true := by
  refine Ev.step (f := fun k => (dbm_Closed.f k m).bind fun t => if (t == b) = true then (gimballaw10_awake.f k).bind fun t => some t else some false) (fun k => by simp only [gimballaw10_DbmTriangles.j1]; rw [if_neg (by decide)]) ?_
  refine Ev.bind hb ?_
  exact Ev.congr (f := fun k => (gimballaw10_awake.f k).bind fun t => some t) (fun k => by rw [if_pos (beq_self_eq_true b)]) (Ev.bind awake_ev (Ev.now _))
theorem tri_off0 (N : Int) (i : Int) (hb : Ev (fun k => dbm_Closed.f k m) b) (hf : b = false) : Ev (fun k => gimballaw10_DbmTriangles.l0 k m N false i) true := by
  subst hf
  by_cases h : i < N
  · exact Ev.step (fun k => by simp only [gimballaw10_DbmTriangles.l0]; rw [if_pos h]) (tri_end N i hb)
  · exact Ev.step (fun k => by simp only [gimballaw10_DbmTriangles.l0]; rw [if_neg h]) (tri_end N i hb)
theorem tri_off1 (N : Int) (i j : Int) (hb : Ev (fun k => dbm_Closed.f k m) b) (hf : b = false) : Ev (fun k => gimballaw10_DbmTriangles.l1 k m N false i j) true := by
  have : Ev (fun k => gimballaw10_DbmTriangles.j3 k m N false i j false) true := Ev.step (fun k => by simp only [gimballaw10_DbmTriangles.j3]; rw [if_neg (by decide)]) (tri_off0 N (wrap64 (i + 1)) hb hf)
  by_cases h : j < N
  · exact Ev.step (fun k => by simp only [gimballaw10_DbmTriangles.l1]; rw [if_pos h]) this
  · exact Ev.step (fun k => by simp only [gimballaw10_DbmTriangles.l1]; rw [if_neg h]) this
theorem tri_off2 (N : Int) (i j c : Int) (hb : Ev (fun k => dbm_Closed.f k m) b) (hf : b = false) : Ev (fun k => gimballaw10_DbmTriangles.l2 k m N false i j c) true := by
  have : Ev (fun k => gimballaw10_DbmTriangles.j5 k m N false i j c false) true := Ev.step (fun k => by simp only [gimballaw10_DbmTriangles.j5]; rw [if_neg (by decide)]) (tri_off1 N i (wrap64 (j + 1)) hb hf)
  by_cases h : c < N
  · exact Ev.step (fun k => by simp only [gimballaw10_DbmTriangles.l2]; rw [if_pos h]) this
  · exact Ev.step (fun k => by simp only [gimballaw10_DbmTriangles.l2]; rw [if_neg h]) this
variable {n : Nat}
theorem tri_2 (hs : Sq m n) (hb : Ev (fun k => dbm_Closed.f k m) b) {i j : Nat} (hi : i < n) (hj : j < n) (hf : ¬ ColG m n i j → b = false) (hr : ColG m n i j → Ev (fun k => gimballaw10_DbmTriangles.l1 k m (n : Int) true (i : Int) ((j + 1 : Nat) : Int)) true) (he : at_ m n i j = tk (at_ m n i j)) :
    ∀ (d c : Nat), n - c = d → c ≤ n → (∀ k, k < c → TG m n i j k) → Ev (fun k => gimballaw10_DbmTriangles.l2 k m (n : Int) true (i : Int) (j : Int) (c : Int)) true := by
  have hn := hs.1
  intro d
  induction d with
  | zero =>
    intro c hd hc h
    have : c = n := by omega
    subst this
    refine Ev.step (f := fun k => gimballaw10_DbmTriangles.j5 k m (c : Int) true (i : Int) (j : Int) (c : Int) false) (fun k => by simp only [gimballaw10_DbmTriangles.l2]; rw [if_neg (by omega)]) ?_
    exact Ev.step (fun k => by simp only [gimballaw10_DbmTriangles.j5]; rw [if_neg (by decide), w1 (by omega)]) (hr ⟨he, h⟩)
  | succ d ih =>
    intro c hd hc h
    have hcn : c < n := by omega
    refine Ev.step (f := fun k => gimballaw10_DbmTriangles.j5 k m (n : Int) true (i : Int) (j : Int) (c : Int) true) (fun k => by simp only [gimballaw10_DbmTriangles.l2]; rw [if_pos (by omega)]) ?_
    have l1 : (((i * n + c : Nat) : Int)) < (m.length : Int) := by rw [hs.2.2]; have := ixn hi hcn; omega
    have l2 : (((c * n + j : Nat) : Int)) < (m.length : Int) := by rw [hs.2.2]; have := ixn hcn hj; omega
    have l3 : (((i * n + j : Nat) : Int)) < (m.length : Int) := by rw [hs.2.2]; have := ixn hi hj; omega
    have r1 := tk_range (at_ m n i c)
    have r2 := tk_range (at_ m n c j)
    have next : TG m n i j c → Ev (fun k => gimballaw10_DbmTriangles.l2 k m (n : Int) true (i : Int) (j : Int) ((c + 1 : Nat) : Int)) true := fun g => ih (c + 1) (by omega) (by omega) (fun k hk => by
      by_cases e : k = c
      · rw [e]; exact g
      · exact h k (by omega))
    by_cases f1 : tk (at_ m n i c) < INF
    · by_cases f2 : tk (at_ m n c j) < INF
      · have hw : wrap64 (tk (at_ m n i c) + tk (at_ m n c j)) = tk (at_ m n i c) + tk (at_ m n c j) := by unfold INF MB at *; unfold wrap64; omega
        by_cases g : at_ m n i j ≤ tk (tk (at_ m n i c) + tk (at_ m n c j))
        · exact Ev.step (fun k => by
            simp only [gimballaw10_DbmTriangles.j5]
            rw [if_pos trivial, ix hn hi hcn, if_pos (by omega), if_pos l1, rd_at, law_taken, Option.bind_some, ix hn hcn hj, if_pos (by omega), if_pos l2, rd_at, law_taken, Option.bind_some, if_pos f1, if_pos f2, ix hn hi hj, if_pos (by omega), if_pos l3, rd_at, hw, law_taken, Option.bind_some, decide_eq_true g, w1 (by omega)]) (next (fun _ _ => g))
        · exact Ev.step (f := fun k => gimballaw10_DbmTriangles.l2 k m (n : Int) false (i : Int) (j : Int) ((c + 1 : Nat) : Int)) (fun k => by
            simp only [gimballaw10_DbmTriangles.j5]
            rw [if_pos trivial, ix hn hi hcn, if_pos (by omega), if_pos l1, rd_at, law_taken, Option.bind_some, ix hn hcn hj, if_pos (by omega), if_pos l2, rd_at, law_taken, Option.bind_some, if_pos f1, if_pos f2, ix hn hi hj, if_pos (by omega), if_pos l3, rd_at, hw, law_taken, Option.bind_some, decide_eq_false g, w1 (by omega)]) (tri_off2 _ _ _ _ hb (hf (fun z => g (z.2 c hcn f1 f2))))
      · exact Ev.step (fun k => by
            simp only [gimballaw10_DbmTriangles.j5]
            rw [if_pos trivial, ix hn hi hcn, if_pos (by omega), if_pos l1, rd_at, law_taken, Option.bind_some, ix hn hcn hj, if_pos (by omega), if_pos l2, rd_at, law_taken, Option.bind_some, if_pos f1, if_neg f2, w1 (by omega)]) (next (fun _ z => absurd z f2))
    · exact Ev.step (fun k => by
            simp only [gimballaw10_DbmTriangles.j5]
            rw [if_pos trivial, ix hn hi hcn, if_pos (by omega), if_pos l1, rd_at, law_taken, Option.bind_some, ix hn hcn hj, if_pos (by omega), if_pos l2, rd_at, law_taken, Option.bind_some, if_neg f1, w1 (by omega)]) (next (fun z _ => absurd z f1))
theorem tri_1 (hs : Sq m n) (hb : Ev (fun k => dbm_Closed.f k m) b) {i : Nat} (hi : i < n) (hf : ¬ RowG m n i → b = false) (hr : RowG m n i → Ev (fun k => gimballaw10_DbmTriangles.l0 k m (n : Int) true ((i + 1 : Nat) : Int)) true) (h0 : at_ m n i i = 0) :
    ∀ (d j : Nat), n - j = d → j ≤ n → (∀ k, k < j → ColG m n i k) → Ev (fun k => gimballaw10_DbmTriangles.l1 k m (n : Int) true (i : Int) (j : Int)) true := by
  have hn := hs.1
  intro d
  induction d with
  | zero =>
    intro j hd hj h
    have : j = n := by omega
    subst this
    refine Ev.step (f := fun k => gimballaw10_DbmTriangles.j3 k m (j : Int) true (i : Int) (j : Int) false) (fun k => by simp only [gimballaw10_DbmTriangles.l1]; rw [if_neg (by omega)]) ?_
    exact Ev.step (fun k => by simp only [gimballaw10_DbmTriangles.j3]; rw [if_neg (by decide), w1 (by omega)]) (hr ⟨h0, h⟩)
  | succ d ih =>
    intro j hd hj h
    have hjn : j < n := by omega
    refine Ev.step (f := fun k => gimballaw10_DbmTriangles.j3 k m (n : Int) true (i : Int) (j : Int) true) (fun k => by simp only [gimballaw10_DbmTriangles.l1]; rw [if_pos (by omega)]) ?_
    have l3 : (((i * n + j : Nat) : Int)) < (m.length : Int) := by rw [hs.2.2]; have := ixn hi hjn; omega
    have hf' : ¬ ColG m n i j → b = false := fun z => hf (fun y => z (y.2 j hjn))
    by_cases he : at_ m n i j = tk (at_ m n i j)
    · refine Ev.step (f := fun k => gimballaw10_DbmTriangles.l2 k m (n : Int) true (i : Int) (j : Int) ((0 : Nat) : Int)) (fun k => by
        simp only [gimballaw10_DbmTriangles.j3]
        rw [if_pos trivial, ix hn hi hjn, if_pos (by omega), if_pos l3, rd_at, law_taken, Option.bind_some, beq_iff_eq.mpr he]
        rfl) ?_
      refine tri_2 hs hb hi hjn hf' (fun g => ih (j + 1) (by omega) (by omega) (fun k hk => ?_)) he n 0 (by omega) (by omega) (fun k hk => by omega)
      by_cases e : k = j
      · rw [e]; exact g
      · exact h k (by omega)
    · exact Ev.step (f := fun k => gimballaw10_DbmTriangles.l2 k m (n : Int) false (i : Int) (j : Int) 0) (fun k => by
        simp only [gimballaw10_DbmTriangles.j3]
        rw [if_pos trivial, ix hn hi hjn, if_pos (by omega), if_pos l3, rd_at, law_taken, Option.bind_some, beq_eq_false_iff_ne.mpr he]) (tri_off2 _ _ _ _ hb (hf' (fun z => he z.1)))
theorem tri_0 (hs : Sq m n) (hb : Ev (fun k => dbm_Closed.f k m) b) (hT : b = true ↔ TriP m n) : ∀ (d i : Nat), n - i = d → i ≤ n → (∀ k, k < i → RowG m n k) → Ev (fun k => gimballaw10_DbmTriangles.l0 k m (n : Int) true (i : Int)) true := by
  have hn := hs.1
  intro d
  induction d with
  | zero =>
    intro i hd hi h
    have : i = n := by omega
    subst this
    have : b = true := hT.mpr h
    subst this
    exact Ev.step (fun k => by simp only [gimballaw10_DbmTriangles.l0]; rw [if_neg (by omega)]) (tri_end _ _ hb)
  | succ d ih =>
    intro i hd hi h
    have hin : i < n := by omega
    refine Ev.step (f := fun k => gimballaw10_DbmTriangles.j1 k m (n : Int) true (i : Int) true) (fun k => by simp only [gimballaw10_DbmTriangles.l0]; rw [if_pos (by omega)]) ?_
    have l3 : (((i * n + i : Nat) : Int)) < (m.length : Int) := by rw [hs.2.2]; have := ixn hin hin; omega
    have hf : ¬ RowG m n i → b = false := fun z => by
      rw [← Bool.not_eq_true]
      exact fun e => z (hT.mp e i hin)
    by_cases h0 : at_ m n i i = 0
    · refine Ev.step (f := fun k => gimballaw10_DbmTriangles.l1 k m (n : Int) true (i : Int) ((0 : Nat) : Int)) (fun k => by
        simp only [gimballaw10_DbmTriangles.j1]
        rw [if_pos trivial, ix hn hin hin, if_pos (by omega), if_pos l3, rd_at, beq_iff_eq.mpr h0]
        rfl) ?_
      refine tri_1 hs hb hin hf (fun g => ih (i + 1) (by omega) (by omega) (fun k hk => ?_)) h0 n 0 (by omega) (by omega) (fun k hk => by omega)
      by_cases e : k = i
      · rw [e]; exact g
      · exact h k (by omega)
    · exact Ev.step (f := fun k => gimballaw10_DbmTriangles.l1 k m (n : Int) false (i : Int) 0) (fun k => by
        simp only [gimballaw10_DbmTriangles.j1]
        rw [if_pos trivial, ix hn hin hin, if_pos (by omega), if_pos l3, rd_at, beq_eq_false_iff_ne.mpr h0]) (tri_off1 _ _ _ hb (hf (fun z => h0 z.1)))
end

theorem DbmTriangles : gimballaw10_DbmTriangles.Pure := by
  intro m _ hm _
  refine Ev.rounds (r := true) ?_
  unfold gimballaw10_DbmTriangles.f
  by_cases hs : ∃ n, Sq m n
  · obtain ⟨n, hs⟩ := hs
    obtain ⟨b, hb, eb⟩ := closed_sq hs
    refine Ev.bind (size_sq hs).2 ?_
    refine Ev.congr (f := fun k => gimballaw10_DbmTriangles.l0 k m (n : Int) true ((0 : Nat) : Int)) (fun k => ?_) (tri_0 hs eb (hb.trans (tri_closed hs)) n 0 (by omega) (by omega) (fun k hk => by omega))
    rw [decide_eq_true (by omega)]
    rfl
  · have hs' : ∀ n, ¬ Sq m n := fun n h => hs ⟨n, h⟩
    have hc : Ev (fun k => dbm_Closed.f k m) false := by
      unfold dbm_Closed.f
      refine Ev.bind (close_none hs') ?_
      exact Ev.congr (f := fun _ => some false) (fun k => by rw [if_neg (by decide)]) (Ev.now _)
    rcases size_ev m with ⟨n, h1, _⟩ | ⟨_, _, h2⟩
    · exact absurd h1 (hs' n)
    · refine Ev.bind h2 ?_
      exact Ev.congr (f := fun k => gimballaw10_DbmTriangles.l0 k m (-1) false 0) (fun k => by rw [decide_eq_false (by decide)]) (tri_off0 _ _ hc rfl)

end Go.Proofs.Ytklignhpkojmhaa.Pure
