/- Sizes, and what the program's Close and Holds answer of any list. -/
import Derived.Test.YtklignhpkojmhaaM2
import Derived.Test.YtklignhpkojmhaaPx17
import Derived.Test.YtklignhpkojmhaaPx22
namespace Go.Proofs.Ytklignhpkojmhaa.M
open Go Go.RowKit Go.Proofs.Ytklignhpkojmhaa.P Go.Proofs.YtklignhpkojmhaaW.PrintWords Go.Proofs.YtklignhpkojmhaaW.PrintMore Go.Proofs.YtklignhpkojmhaaO

/-! ### sizes -/
def Sq (l : List Int) (n : Nat) : Prop := n ≤ 16 ∧ n % 2 = 0 ∧ l.length = n * n
theorem sqw : ∀ t, t < 9 → wrap64 (((2 * t : Nat) : Int) * ((2 * t : Nat) : Int)) = (((2 * t) * (2 * t) : Nat) : Int) := by decide +kernel
theorem size_go (l : List Int) : ∀ (d t : Nat), 9 - t = d → t ≤ 9 →
    (∃ n, Sq l n ∧ Ev (fun k => dbm_size.l0 k l ((2 * t : Nat) : Int)) ((n : Int), true) ∧ Ev (fun k => gimballaw10_nodes.l0 k l ((2 * t : Nat) : Int)) (n : Int)) ∨
    ((∀ s, t ≤ s → s < 9 → l.length ≠ (2 * s) * (2 * s)) ∧ Ev (fun k => dbm_size.l0 k l ((2 * t : Nat) : Int)) (0, false) ∧ Ev (fun k => gimballaw10_nodes.l0 k l ((2 * t : Nat) : Int)) (-1)) := by
  intro d
  induction d with
  | zero =>
    intro t hd ht
    have : t = 9 := by omega
    subst this
    refine .inr ⟨fun s h1 h2 => by omega, ?_, ?_⟩
    · exact Ev.step (f := fun _ => some (0, false)) (fun k => by simp only [dbm_size.l0]; rw [if_neg (by omega)]) (Ev.now _)
    · exact Ev.step (f := fun _ => some (-1)) (fun k => by simp only [gimballaw10_nodes.l0]; rw [if_neg (by omega)]) (Ev.now _)
  | succ d ih =>
    intro t hd ht
    have ht' : t < 9 := by omega
    have hw := sqw t ht'
    have hn : wrap64 (((2 * t : Nat) : Int) + 2) = ((2 * (t + 1) : Nat) : Int) := by unfold wrap64; omega
    by_cases h : l.length = (2 * t) * (2 * t)
    · refine .inl ⟨2 * t, ⟨by omega, by omega, h⟩, ?_, ?_⟩
      · exact Ev.step (f := fun _ => some (((2 * t : Nat) : Int), true)) (fun k => by simp only [dbm_size.l0]; rw [if_pos (by omega), hw, h, if_pos rfl]) (Ev.now _)
      · exact Ev.step (f := fun _ => some ((2 * t : Nat) : Int)) (fun k => by simp only [gimballaw10_nodes.l0]; rw [if_pos (by omega), hw, h, if_pos rfl]) (Ev.now _)
    · have hne : ¬ (((2 * t) * (2 * t) : Nat) : Int) = (l.length : Int) := fun e => h (by omega)
      have s1 : ∀ r, Ev (fun k => dbm_size.l0 k l ((2 * (t + 1) : Nat) : Int)) r → Ev (fun k => dbm_size.l0 k l ((2 * t : Nat) : Int)) r := fun r hr => Ev.step (fun k => by simp only [dbm_size.l0]; rw [if_pos (by omega), hw, if_neg hne, hn]) hr
      have s2 : ∀ r, Ev (fun k => gimballaw10_nodes.l0 k l ((2 * (t + 1) : Nat) : Int)) r → Ev (fun k => gimballaw10_nodes.l0 k l ((2 * t : Nat) : Int)) r := fun r hr => Ev.step (fun k => by simp only [gimballaw10_nodes.l0]; rw [if_pos (by omega), hw, if_neg hne, hn]) hr
      rcases ih (t + 1) (by omega) (by omega) with ⟨n, h1, h2, h3⟩ | ⟨h1, h2, h3⟩
      · exact .inl ⟨n, h1, s1 _ h2, s2 _ h3⟩
      · refine .inr ⟨fun s hs hs' => ?_, s1 _ h2, s2 _ h3⟩
        by_cases e : s = t
        · rw [e]; exact h
        · exact h1 s (by omega) hs'
theorem size_ev (l : List Int) : (∃ n, Sq l n ∧ Ev (fun k => dbm_size.f k l) ((n : Int), true) ∧ Ev (fun k => gimballaw10_nodes.f k l) (n : Int)) ∨ ((∀ n, ¬ Sq l n) ∧ Ev (fun k => dbm_size.f k l) (0, false) ∧ Ev (fun k => gimballaw10_nodes.f k l) (-1)) := by
  rcases size_go l 9 0 rfl (by omega) with h | ⟨h1, h2, h3⟩
  · exact .inl h
  · refine .inr ⟨fun n hn => ?_, h2, h3⟩
    obtain ⟨a, b, c⟩ := hn
    have e : n = 2 * (n / 2) := by omega
    rw [e] at c
    exact h1 (n / 2) (by omega) (by omega) c
theorem Sq.inj {l : List Int} {n n' : Nat} (h : Sq l n) (h' : Sq l n') : n = n' := by
  have e : n * n = n' * n' := h.2.2.symm.trans h'.2.2
  rcases Nat.lt_trichotomy n n' with h1 | h1 | h1
  · have := Nat.mul_self_lt_mul_self h1
    omega
  · exact h1
  · have := Nat.mul_self_lt_mul_self h1
    omega
theorem size_sq {l : List Int} {n : Nat} (h : Sq l n) : Ev (fun k => dbm_size.f k l) ((n : Int), true) ∧ Ev (fun k => gimballaw10_nodes.f k l) (n : Int) := by
  rcases size_ev l with ⟨n', h1, h2, h3⟩ | ⟨h1, _⟩
  · rw [h.inj h1]; exact ⟨h2, h3⟩
  · exact absurd h (h1 n)

/-! ### Close -/
theorem cpy_all (m : List Int) : cpy (List.replicate m.length 0) m = m := by
  unfold cpy
  rw [List.length_replicate, List.take_length, List.drop_replicate, Nat.sub_self, List.replicate_zero, List.append_nil]
theorem close_sq {m : List Int} {n : Nat} (h : Sq m n) : ∃ r, CT m n r ∧ Ev (fun k => dbm_Close.f k m) r := by
  obtain ⟨r, h1, h2⟩ := close_ev h.1 h.2.2
  refine ⟨r, h1, ?_⟩
  have hL : m.length ≤ 256 := by rw [h.2.2]; exact Nat.mul_le_mul h.1 h.1
  unfold dbm_Close.f
  refine Ev.bind (size_sq h).1 ?_
  refine Ev.congr (f := fun k => dbm_Close.l0 k (n : Int) m (m.length : Int) 0) (fun k => ?_) h2
  rw [if_pos rfl, if_pos (by omega), if_pos (by omega)]
  simp only [Option.bind_some, Int.toNat_natCast]
  rw [cpy_all, List.length_replicate]
theorem close_none {m : List Int} (h : ∀ n, ¬ Sq m n) : Ev (fun k => dbm_Close.f k m) ([], false) := by
  rcases size_ev m with ⟨n, h1, _⟩ | ⟨_, h2, _⟩
  · exact absurd h1 (h n)
  · unfold dbm_Close.f
    refine Ev.bind h2 ?_
    refine Ev.congr (f := fun _ => some ([], false)) (fun k => ?_) (Ev.now _)
    rw [if_neg (by decide)]

theorem law_taken (a : Int) : gimballaw10_taken.f a = some (tk a) := by
  unfold gimballaw10_taken.f tk MB INF
  (repeat' split) <;> rfl

/-! ### Holds -/
def val (v : List Int) (i : Nat) : Int := if i % 2 = 0 then v.getD (i / 2) 0 else -v.getD (i / 2) 0
def InR (v : List Int) : Prop := ∀ p, p < v.length → -MB ≤ v.getD p 0 ∧ v.getD p 0 ≤ MB
def Fits (m : List Int) (n : Nat) (v : List Int) : Prop := ∀ i j, i < n → j < n → tk (at_ m n i j) < INF → val v j - val v i ≤ tk (at_ m n i j)
def HoldsP (m : List Int) (n : Nat) (v : List Int) : Prop := n = 2 * v.length ∧ InR v ∧ Fits m n v
theorem val_le {v : List Int} (h : InR v) {i : Nat} (hi : i < 2 * v.length) : -MB ≤ val v i ∧ val v i ≤ MB := by
  have := h (i / 2) (by omega)
  unfold val
  split <;> omega
theorem tmod2 (j : Nat) : Int.tmod (j : Int) 2 = ((j % 2 : Nat) : Int) := rfl
theorem tdiv2 (j : Nat) : Int.tdiv (j : Int) 2 = ((j / 2 : Nat) : Int) := rfl
theorem wid {p : Nat} (h : p ≤ 1000000) : wrap64 (p : Int) = (p : Int) := by unfold wrap64; omega
theorem rd_nat (v : List Int) (p : Nat) : rd v (p : Int) = v.getD p 0 := by unfold rd; rw [Int.toNat_natCast]
theorem h_val {v : List Int} (h : InR v) {i : Nat} (hi : i < 2 * v.length) (hv : i ≤ 1000) : dbm_Holds_1.f (i : Int) v = some (val v i) := by
  have h1 := h (i / 2) (by omega)
  unfold dbm_Holds_1.f val
  rw [tmod2, tdiv2, wid (by omega), rd_nat]
  by_cases e : i % 2 = 0
  · rw [if_pos (by omega), if_pos (by omega), if_pos (by omega), if_pos e]
  · rw [if_neg (by omega), if_pos (by omega), if_pos (by omega), if_neg e]
    have : wrap64 (-v.getD (i / 2) 0) = -v.getD (i / 2) 0 := by unfold MB at *; unfold wrap64; omega
    rw [this]
section
variable {n : Nat}
def GoodD (m : List Int) (n : Nat) (v : List Int) (i j : Nat) : Prop := tk (at_ m n i j) < INF → val v j - val v i ≤ tk (at_ m n i j)
theorem h2_ev (hn : n ≤ 16) {m v : List Int} (hm : m.length = n * n) (hv : n = 2 * v.length) (hR : InR v) {i : Nat} (hi : i < n) (r : Bool)
    (hr : (∀ j, j < n → GoodD m n v i j) → Ev (fun k => dbm_Holds.l1 k m (n : Int) (n : Int) ((i + 1 : Nat) : Int) v) r) (hf : (∃ j, j < n ∧ ¬ GoodD m n v i j) → r = false) :
    ∀ (d c : Nat), n - c = d → c ≤ n → (∀ j, j < c → GoodD m n v i j) → Ev (fun k => dbm_Holds.l2 k m (n : Int) (i : Int) (n : Int) (i : Int) (n : Int) (c : Int) v) r := by
  intro d
  induction d with
  | zero =>
    intro c hd hc h
    have : c = n := by omega
    subst this
    exact Ev.step (fun k => by simp only [dbm_Holds.l2]; rw [if_neg (by omega), w1 (by omega)]) (hr h)
  | succ d ih =>
    intro c hd hc h
    have hcn : c < n := by omega
    have hl : (((i * n + c : Nat) : Int)) < (m.length : Int) := by rw [hm]; have := ixn hi hcn; omega
    have more : GoodD m n v i c → Ev (fun k => dbm_Holds.l2 k m (n : Int) (i : Int) (n : Int) (i : Int) (n : Int) ((c + 1 : Nat) : Int) v) r := fun g => ih (c + 1) (by omega) (by omega) (fun j hj => by
      by_cases e : j = c
      · rw [e]; exact g
      · exact h j (by omega))
    have hvi := h_val hR (i := i) (by omega) (by omega)
    have hvc := h_val hR (i := c) (by omega) (by omega)
    have b1 := val_le hR (i := i) (by omega)
    have b2 := val_le hR (i := c) (by omega)
    have hrg := tk_range (at_ m n i c)
    have hw : wrap64 (val v c - val v i) = val v c - val v i := by unfold MB at *; unfold wrap64; omega
    by_cases hinf : tk (at_ m n i c) = INF
    · refine Ev.step (fun k => by simp only [dbm_Holds.l2]; rw [if_pos (by omega), ix hn hi hcn, if_pos (by omega), if_pos hl, rd_at, taken_f]; simp only [Option.bind_some]; rw [if_pos hinf, w1 (by omega)]) (more (fun hlt => absurd hinf (by omega)))
    · by_cases hg : val v c - val v i > tk (at_ m n i c)
      · have : r = false := hf ⟨c, hcn, fun g => by have := g (by unfold INF MB at *; omega); omega⟩
        subst this
        refine Ev.step (f := fun _ => some false) (fun k => by simp only [dbm_Holds.l2]; rw [if_pos (by omega), ix hn hi hcn, if_pos (by omega), if_pos hl, rd_at, taken_f]; simp only [Option.bind_some]; rw [if_neg hinf, hvc, hvi]; simp only [Option.bind_some]; rw [hw, if_pos hg]) (Ev.now _)
      · refine Ev.step (fun k => by simp only [dbm_Holds.l2]; rw [if_pos (by omega), ix hn hi hcn, if_pos (by omega), if_pos hl, rd_at, taken_f]; simp only [Option.bind_some]; rw [if_neg hinf, hvc, hvi]; simp only [Option.bind_some]; rw [hw, if_neg hg, w1 (by omega)]) (more (fun _ => by omega))
theorem h1_ev (hn : n ≤ 16) {m v : List Int} (hm : m.length = n * n) (hv : n = 2 * v.length) (hR : InR v) (r : Bool) (hr : Fits m n v → r = true) (hf : ¬ Fits m n v → r = false) :
    ∀ (d i : Nat), n - i = d → i ≤ n → (∀ a j, a < i → j < n → GoodD m n v a j) → Ev (fun k => dbm_Holds.l1 k m (n : Int) (n : Int) (i : Int) v) r := by
  intro d
  induction d with
  | zero =>
    intro i hd hi h
    have : i = n := by omega
    subst this
    have := hr (fun a j ha hj => h a j ha hj)
    subst this
    exact Ev.step (f := fun _ => some true) (fun k => by simp only [dbm_Holds.l1]; rw [if_neg (by omega)]) (Ev.now _)
  | succ d ih =>
    intro i hd hi h
    have hin : i < n := by omega
    refine Ev.step (f := fun k => dbm_Holds.l2 k m (n : Int) (i : Int) (n : Int) (i : Int) (n : Int) ((0 : Nat) : Int) v) (fun k => by simp only [dbm_Holds.l1]; rw [if_pos (by omega)]; rfl) ?_
    refine h2_ev hn hm hv hR hin r (fun g => ih (i + 1) (by omega) (by omega) (fun a j ha hj => ?_)) (fun ⟨j, hj, hb⟩ => hf (fun g => hb (g i j hin hj))) n 0 (by omega) (by omega) (fun j hj => by omega)
    by_cases e : a = i
    · rw [e]; exact g j hj
    · exact h a j (by omega) hj
theorem h0_ev (hn : n ≤ 16) {m v : List Int} (hm : m.length = n * n) (hv : n = 2 * v.length) (r : Bool) (hr : InR v → Fits m n v → r = true) (hf : ¬ (InR v ∧ Fits m n v) → r = false) :
    ∀ (d p : Nat), v.length - p = d → p ≤ v.length → (∀ q, q < p → -MB ≤ v.getD q 0 ∧ v.getD q 0 ≤ MB) → Ev (fun k => dbm_Holds.l0 k m (n : Int) v (v.length : Int) (p : Int) v) r := by
  intro d
  induction d with
  | zero =>
    intro p hd hp h
    have : p = v.length := by omega
    subst this
    refine Ev.step (f := fun k => dbm_Holds.l1 k m (n : Int) (n : Int) ((0 : Nat) : Int) v) (fun k => by simp only [dbm_Holds.l0]; rw [if_neg (by omega)]; rfl) ?_
    exact h1_ev hn hm hv h r (hr h) (fun g => hf (fun z => g z.2)) n 0 (by omega) (by omega) (fun a j ha => by omega)
  | succ d ih =>
    intro p hd hp h
    have hpl : p < v.length := by omega
    by_cases e1 : v.getD p 0 < -1099511627776
    · have : r = false := hf (fun z => by have := z.1 p hpl; unfold MB at this; omega)
      subst this
      exact Ev.step (f := fun _ => some false) (fun k => by simp only [dbm_Holds.l0]; rw [if_pos (by omega), if_pos (by omega), if_pos (by omega), rd_nat, if_pos e1]) (Ev.now _)
    · by_cases e2 : v.getD p 0 > 1099511627776
      · have : r = false := hf (fun z => by have := z.1 p hpl; unfold MB at this; omega)
        subst this
        exact Ev.step (f := fun _ => some false) (fun k => by simp only [dbm_Holds.l0]; rw [if_pos (by omega), if_pos (by omega), if_pos (by omega), rd_nat, if_neg e1, if_pos e2]) (Ev.now _)
      · refine Ev.step (fun k => by simp only [dbm_Holds.l0]; rw [if_pos (by omega), if_pos (by omega), if_pos (by omega), rd_nat, if_neg e1, if_neg e2, w1 (by omega)]) (ih (p + 1) (by omega) (by omega) (fun q hq => ?_))
        by_cases e : q = p
        · subst e; unfold MB; omega
        · exact h q (by omega)
end
theorem holds_sq {m v : List Int} {n : Nat} (h : Sq m n) (hv : v.length ≤ 17592186044416) : ∃ b : Bool, (b = true ↔ HoldsP m n v) ∧ Ev (fun k => dbm_Holds.f k m v) b := by
  have go : ∀ r : Bool, (HoldsP m n v → r = true) → (¬ HoldsP m n v → r = false) → Ev (fun k => dbm_Holds.f k m v) r := by
    intro r hr hf
    unfold dbm_Holds.f
    refine Ev.bind (size_sq h).1 ?_
    have hw : wrap64 (2 * (v.length : Int)) = 2 * (v.length : Int) := by unfold wrap64; omega
    by_cases e : n = 2 * v.length
    · refine Ev.congr (f := fun k => dbm_Holds.j0 k m (n : Int) false v) (fun k => ?_) ?_
      · rw [if_pos rfl, hw]
        have : (((n : Int), true).1 != 2 * (v.length : Int)) = false := by
          rw [bne_eq_false_iff_eq]
          show (n : Int) = _
          omega
        rw [this]
      · refine Ev.step (f := fun k => dbm_Holds.l0 k m (n : Int) v (v.length : Int) ((0 : Nat) : Int) v) (fun k => by simp only [dbm_Holds.j0]; rw [if_neg (by decide)]; rfl) ?_
        exact h0_ev h.1 h.2.2 e r (fun a b => hr ⟨e, a, b⟩) (fun z => hf (fun y => z y.2)) v.length 0 (by omega) (by omega) (fun q hq => by omega)
    · have : r = false := hf (fun z => e z.1)
      subst this
      refine Ev.congr (f := fun k => dbm_Holds.j0 k m (n : Int) true v) (fun k => ?_) ?_
      · rw [if_pos rfl, hw]
        have : (((n : Int), true).1 != 2 * (v.length : Int)) = true := by
          rw [bne_iff_ne]
          show (n : Int) ≠ _
          omega
        rw [this]
      · exact Ev.step (f := fun _ => some false) (fun k => by simp only [dbm_Holds.j0]; rw [if_pos trivial]) (Ev.now _)
  by_cases hh : HoldsP m n v
  · exact ⟨true, ⟨fun _ => hh, fun _ => rfl⟩, go true (fun _ => rfl) (fun z => absurd hh z)⟩
  · exact ⟨false, ⟨fun z => absurd z (by decide), fun z => absurd z hh⟩, go false (fun z => absurd z hh) (fun _ => rfl)⟩
theorem holds_none {m v : List Int} (h : ∀ n, ¬ Sq m n) : Ev (fun k => dbm_Holds.f k m v) false := by
  rcases size_ev m with ⟨n, h1, _⟩ | ⟨_, h2, _⟩
  · exact absurd h1 (h n)
  · unfold dbm_Holds.f
    refine Ev.bind h2 ?_
    refine Ev.congr (f := fun k => dbm_Holds.j0 k m 0 true v) (fun k => ?_) ?_
    · rw [if_neg (by decide)]
    · exact Ev.step (f := fun _ => some false) (fun k => by simp only [dbm_Holds.j0]; rw [if_pos trivial]) (Ev.now _)
theorem awake_ev : Ev (fun k => gimballaw10_awake.f k) true := Ev.of (k := 1000) gimballaw10_awake.mono (by decide +kernel)

/-! ### potentials -/
theorem pot {M : Nat → Nat → Int} {n : Nat} {p : Nat → Int} (h : ∀ i j, i < n → j < n → M i j < INF → p j - p i ≤ M i j) {i j l : Nat} {w : Int} (hw : Wk M n i j l w) : p j - p i ≤ w := by
  induction hw with
  | nil _ => omega
  | cons hi hM hw ih =>
    have := h _ _ hi hw.src hM
    omega
theorem Wk.mono {M M' : Nat → Nat → Int} {n : Nat} (h : ∀ i j, i < n → j < n → M i j ≤ M' i j) {i j l : Nat} {w : Int} (hw : Wk M' n i j l w) : ∃ w', w' ≤ w ∧ Wk M n i j l w' := by
  induction hw with
  | nil hi => exact ⟨0, by omega, Wk.nil hi⟩
  | cons hi hM hw ih =>
    obtain ⟨w', h1, h2⟩ := ih
    have := h _ _ hi hw.src
    exact ⟨_, by omega, Wk.cons hi (by omega) h2⟩
theorem M0_fin {m : List Int} {n i j : Nat} (h : M0 m n i j < INF) : (i = j ∨ tk (at_ m n i j) < INF) ∧ (i ≠ j → M0 m n i j = tk (at_ m n i j)) := by
  unfold M0 at *
  by_cases e : i = j
  · exact ⟨.inl e, fun z => absurd e z⟩
  · rw [if_neg e] at h ⊢
    exact ⟨.inr h, fun _ => rfl⟩
/-- A way round below 0 leaves no values. -/
theorem neg_fits {m v : List Int} {n : Nat} (h : Neg (M0 m n) n) : ¬ Fits m n v := by
  intro hf
  obtain ⟨i, l, w, hw, hneg⟩ := h
  have := pot (p := val v) (fun a b ha hb hM => ?_) hw
  · omega
  · by_cases e : a = b
    · subst e
      have := hf a a ha ha
      unfold M0 at hM ⊢
      rw [if_pos rfl] at hM ⊢
      unfold INF at *
      omega
    · have h1 := (M0_fin hM).2 e
      rw [h1] at hM ⊢
      exact hf a b ha hb hM
/-- Closing keeps the values. -/
theorem closed_fits {m r v : List Int} {n : Nat} {D : Nat → Nat → Int} (hD : Closure (M0 m n) D n) (hr : ∀ i j, i < n → j < n → at_ r n i j = tk (D i j)) : Fits m n v ↔ Fits r n v := by
  constructor
  · intro hf i j hi hj hfin
    rw [hr i j hi hj, tk_tk] at hfin ⊢
    have hDf : D i j < INF := by
      have := hD.inf i j hi hj
      rcases Int.lt_or_eq_of_le this with h | h
      · exact h
      · rw [h] at hfin; exact absurd hfin (by decide)
    obtain ⟨l, hw⟩ := hD.walk i j hi hj hDf
    have h1 := pot (p := val v) (fun a b ha hb hM => ?_) hw
    · have := le_tk (a := D i j) (by omega)
      omega
    · by_cases e : a = b
      · subst e
        have := hf a a ha ha
        unfold M0 at hM ⊢
        rw [if_pos rfl] at hM ⊢
        unfold INF at *
        omega
      · have h1 := (M0_fin hM).2 e
        rw [h1] at hM ⊢
        exact hf a b ha hb hM
  · intro hf i j hi hj hfin
    by_cases e : i = j
    · subst e
      have h0 : M0 m n i i < INF := by unfold M0; rw [if_pos rfl]; unfold INF; omega
      have h1 := (hD.edges i i hi hi h0).2
      rw [hD.diag i hi] at h1
      unfold M0 at h1
      rw [if_pos rfl] at h1
      omega
    · have e1 : M0 m n i j = tk (at_ m n i j) := by unfold M0; rw [if_neg e]
      have h1 := hD.edges i j hi hj (by rw [e1]; exact hfin)
      rw [e1] at h1
      have h2 := tk_mono h1.2
      rw [tk_tk] at h2
      have h3 := hf i j hi hj
      rw [hr i j hi hj, tk_tk] at h3
      have := h3 (by omega)
      omega
end Go.Proofs.Ytklignhpkojmhaa.M
