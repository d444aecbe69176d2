/- What Set, Coherent and same answer of any list. -/
import Derived.Test.YtklignhpkojmhaaM3
import Derived.Test.YtklignhpkojmhaaPx1
import Derived.Test.YtklignhpkojmhaaPx27
import Derived.Test.YtklignhpkojmhaaPx28
namespace Go.Proofs.Ytklignhpkojmhaa.M
open Go Go.RowKit Go.Proofs.Ytklignhpkojmhaa.P Go.Proofs.YtklignhpkojmhaaW.PrintWords Go.Proofs.YtklignhpkojmhaaW.PrintMore Go.Proofs.YtklignhpkojmhaaO

theorem pq {n p : Nat} (hp : p < n * n) : ∃ i j, i < n ∧ j < n ∧ p = i * n + j := by
  have hn : 0 < n := by
    rcases Nat.eq_zero_or_pos n with h0 | h0
    · subst h0; simp at hp
    · exact h0
  refine ⟨p / n, p % n, by rw [Nat.div_lt_iff_lt_mul hn]; exact hp, Nat.mod_lt _ hn, ?_⟩
  rw [Nat.mul_comm, Nat.div_add_mod]
def bar (j : Nat) : Nat := if j % 2 = 0 then j + 1 else j - 1
theorem bar_bar (j : Nat) : bar (bar j) = j := by
  unfold bar
  (repeat' split) <;> omega
theorem bar_lt {n j : Nat} (hn : n % 2 = 0) (hj : j < n) : bar j < n := by
  unfold bar
  split <;> omega
theorem bar_inj {i j : Nat} (h : bar i = bar j) : i = j := by
  rw [← bar_bar i, h, bar_bar]
theorem xor1 : ∀ j : Nat, j < 16 → Go.bits .xor .i64 ((j : Nat) : Int) 1 = ((bar j : Nat) : Int) := by decide +kernel
theorem bar_f : ∀ j : Nat, j < 16 → gimballaw10_bar.f ((j : Nat) : Int) = some ((bar j : Nat) : Int) := by decide +kernel
theorem val_bar (v : List Int) (j : Nat) : val v (bar j) = -val v j := by
  unfold val bar
  by_cases h : j % 2 = 0
  · rw [if_pos h, if_neg (by omega), if_pos h, show (j + 1) / 2 = j / 2 by omega]
  · rw [if_neg h, if_pos (by omega), if_neg h, show (j - 1) / 2 = j / 2 by omega]
    omega

/-! ### same -/
theorem same_go {a b : List Int} (hL : a.length ≤ 17592186044416) (hl : a.length = b.length) (r : Bool) (hr : a = b → r = true) (hf : a ≠ b → r = false) : ∀ (d p : Nat), a.length - p = d → p ≤ a.length → (∀ q, q < p → a.getD q 0 = b.getD q 0) → Ev (fun k => gimballaw10_same.l0 k a b (p : Int)) r := by
  intro d
  induction d with
  | zero =>
    intro p hd hp h
    have : p = a.length := by omega
    subst this
    have := hr (list_ext rfl hl.symm h)
    subst this
    exact Ev.step (f := fun _ => some true) (fun k => by simp only [gimballaw10_same.l0]; rw [if_neg (by omega)]) (Ev.now _)
  | succ d ih =>
    intro p hd hp h
    have hpl : p < a.length := by omega
    have hw : wrap64 ((p : Int) + 1) = ((p + 1 : Nat) : Int) := by unfold wrap64; omega
    by_cases e : a.getD p 0 = b.getD p 0
    · exact Ev.step (fun k => by simp only [gimballaw10_same.l0]; rw [if_pos (by omega), if_pos (by omega), if_pos (by omega), rd_nat, rd_nat, if_pos e, hw]) (ih (p + 1) (by omega) (by omega) (fun q hq => by
        by_cases e2 : q = p
        · rw [e2]; exact e
        · exact h q (by omega)))
    · have := hf (fun z => e (by rw [z]))
      subst this
      exact Ev.step (f := fun _ => some false) (fun k => by simp only [gimballaw10_same.l0]; rw [if_pos (by omega), if_pos (by omega), if_pos (by omega), rd_nat, rd_nat, if_neg e]) (Ev.now _)
theorem same_self {a : List Int} (hL : a.length ≤ 17592186044416) : Ev (fun k => gimballaw10_same.f k a a) true := by
  unfold gimballaw10_same.f
  refine Ev.congr (f := fun k => gimballaw10_same.l0 k a a ((0 : Nat) : Int)) (fun k => ?_) (same_go hL rfl true (fun _ => rfl) (fun z => absurd rfl z) a.length 0 rfl (by omega) (fun q hq => by omega))
  rw [if_pos rfl]
  rfl

/-! ### Coherent -/
def CohP (m : List Int) (n : Nat) : Prop := ∀ i j, i < n → j < n → tk (at_ m n i j) = tk (at_ m n (bar j) (bar i))
section
variable {m : List Int} {n : Nat}
theorem coh1_ev (h : Sq m n) (r : Bool) {i : Nat} (hi : i < n) (hr : (∀ j, j < n → tk (at_ m n i j) = tk (at_ m n (bar j) (bar i))) → Ev (fun k => dbm_Coherent.l0 k m (n : Int) (n : Int) ((i + 1 : Nat) : Int)) r) (hf : (∃ j, j < n ∧ tk (at_ m n i j) ≠ tk (at_ m n (bar j) (bar i))) → r = false) :
    ∀ (d c : Nat), n - c = d → c ≤ n → (∀ j, j < c → tk (at_ m n i j) = tk (at_ m n (bar j) (bar i))) → Ev (fun k => dbm_Coherent.l1 k m (n : Int) (i : Int) (n : Int) (i : Int) (n : Int) (c : Int)) r := by
  have hn := h.1
  intro d
  induction d with
  | zero =>
    intro c hd hc g
    have : c = n := by omega
    subst this
    exact Ev.step (fun k => by simp only [dbm_Coherent.l1]; rw [if_neg (by omega), w1 (by omega)]) (hr g)
  | succ d ih =>
    intro c hd hc g
    have hcn : c < n := by omega
    have hbi := bar_lt h.2.1 hi
    have hbc := bar_lt h.2.1 hcn
    have hl : (((i * n + c : Nat) : Int)) < (m.length : Int) := by rw [h.2.2]; have := ixn hi hcn; omega
    have hl2 : (((bar c * n + bar i : Nat) : Int)) < (m.length : Int) := by rw [h.2.2]; have := ixn hbc hbi; omega
    by_cases e : tk (at_ m n i c) = tk (at_ m n (bar c) (bar i))
    · refine Ev.step (fun k => by simp only [dbm_Coherent.l1]; rw [if_pos (by omega), ix hn hi hcn, if_pos (by omega), if_pos hl, rd_at, taken_f]; simp only [Option.bind_some]; rw [xor1 c (by omega), xor1 i (by omega), ix hn hbc hbi, if_pos (by omega), if_pos hl2, rd_at, taken_f]; simp only [Option.bind_some]; rw [if_pos e, w1 (by omega)]) (ih (c + 1) (by omega) (by omega) (fun j hj => ?_))
      by_cases e2 : j = c
      · rw [e2]; exact e
      · exact g j (by omega)
    · have := hf ⟨c, hcn, e⟩
      subst this
      exact Ev.step (f := fun _ => some false) (fun k => by simp only [dbm_Coherent.l1]; rw [if_pos (by omega), ix hn hi hcn, if_pos (by omega), if_pos hl, rd_at, taken_f]; simp only [Option.bind_some]; rw [xor1 c (by omega), xor1 i (by omega), ix hn hbc hbi, if_pos (by omega), if_pos hl2, rd_at, taken_f]; simp only [Option.bind_some]; rw [if_neg e]) (Ev.now _)
theorem coh0_ev (h : Sq m n) (r : Bool) (hr : CohP m n → r = true) (hf : ¬ CohP m n → r = false) :
    ∀ (d i : Nat), n - i = d → i ≤ n → (∀ a j, a < i → j < n → tk (at_ m n a j) = tk (at_ m n (bar j) (bar a))) → Ev (fun k => dbm_Coherent.l0 k m (n : Int) (n : Int) (i : Int)) r := by
  intro d
  induction d with
  | zero =>
    intro i hd hi g
    have : i = n := by omega
    subst this
    have := hr (fun a j ha hj => g a j ha hj)
    subst this
    exact Ev.step (f := fun _ => some true) (fun k => by simp only [dbm_Coherent.l0]; rw [if_neg (by omega)]) (Ev.now _)
  | succ d ih =>
    intro i hd hi g
    have hin : i < n := by omega
    refine Ev.step (f := fun k => dbm_Coherent.l1 k m (n : Int) (i : Int) (n : Int) (i : Int) (n : Int) ((0 : Nat) : Int)) (fun k => by simp only [dbm_Coherent.l0]; rw [if_pos (by omega)]; rfl) ?_
    refine coh1_ev h r hin (fun z => ih (i + 1) (by omega) (by omega) (fun a j ha hj => ?_)) (fun ⟨j, hj, hb⟩ => hf (fun z => hb (z i j hin hj))) n 0 (by omega) (by omega) (fun j hj => by omega)
    by_cases e : a = i
    · rw [e]; exact z j hj
    · exact g a j (by omega) hj
theorem coh_sq (h : Sq m n) : ∃ b : Bool, (b = true ↔ CohP m n) ∧ Ev (fun k => dbm_Coherent.f k m) b := by
  have go : ∀ r : Bool, (CohP m n → r = true) → (¬ CohP m n → r = false) → Ev (fun k => dbm_Coherent.f k m) r := by
    intro r hr hf
    unfold dbm_Coherent.f
    refine Ev.bind (size_sq h).1 ?_
    refine Ev.congr (f := fun k => dbm_Coherent.l0 k m (n : Int) (n : Int) ((0 : Nat) : Int)) (fun k => ?_) (coh0_ev h r hr hf n 0 (by omega) (by omega) (fun a j ha => by omega))
    rw [if_pos rfl]
    rfl
  by_cases hh : CohP m n
  · exact ⟨true, ⟨fun _ => hh, fun _ => rfl⟩, go true (fun _ => rfl) (fun z => absurd hh z)⟩
  · exact ⟨false, ⟨fun z => absurd z (by decide), fun z => absurd z hh⟩, go false (fun z => absurd z hh) (fun _ => rfl)⟩
theorem coh_none (h : ∀ n, ¬ Sq m n) : Ev (fun k => dbm_Coherent.f k m) false := by
  rcases size_ev m with ⟨n, h1, _⟩ | ⟨_, h2, _⟩
  · exact absurd h1 (h n)
  · unfold dbm_Coherent.f
    refine Ev.bind h2 ?_
    exact Ev.congr (f := fun _ => some false) (fun k => by rw [if_neg (by decide)]) (Ev.now _)
end

/-! ### Set -/
/-- y is what Set of m, i, j, c answers. -/
def SetP (m y : List Int) (n i j : Nat) (c : Int) : Prop := y.length = n * n ∧ ∀ a b, a < n → b < n → at_ y n a b = if (a = i ∧ b = j) ∨ (a = bar j ∧ b = bar i) then min (tk (at_ m n a b)) (tk c) else tk (at_ m n a b)
theorem set0_ev {m : List Int} {n : Nat} (h : Sq m n) {i j : Nat} (hi : i < n) (hj : j < n) (c : Int) : ∃ y, SetP m y n i j c ∧ ∀ (d p : Nat) (x : List Int), m.length - p = d → p ≤ m.length → x.length = m.length → (∀ q, q < p → x.getD q 0 = tk (m.getD q 0)) → (∀ q, p ≤ q → x.getD q 0 = m.getD q 0) → Ev (fun k => dbm_Set.l0 k (i : Int) (j : Int) c x (n : Int) (m.length : Int) (p : Int)) y := by
  have hn := h.1
  have hbi := bar_lt h.2.1 hi
  have hbj := bar_lt h.2.1 hj
  have hL : m.length ≤ 256 := by rw [h.2.2]; exact Nat.mul_le_mul hn hn
  let y1 := (m.map tk).set (i * n + j) (min (tk (at_ m n i j)) (tk c))
  let y2 := y1.set (bar j * n + bar i) (min (at_ y1 n (bar j) (bar i)) (tk c))
  have l1 : y1.length = n * n := by show (List.set _ _ _).length = _; rw [List.length_set, List.length_map, h.2.2]
  have e1 : ∀ a b, a < n → b < n → at_ y1 n a b = if i = a ∧ j = b then min (tk (at_ m n i j)) (tk c) else tk (at_ m n a b) := by
    intro a b ha hb
    show at_ (List.set _ _ _) n a b = _
    rw [at_set (by rw [List.length_map, h.2.2]) hi hj hb, at_map h.2.2 ha hb]
  refine ⟨y2, ⟨by show (List.set _ _ _).length = _; rw [List.length_set, l1], fun a b ha hb => ?_⟩, ?_⟩
  · show at_ (List.set _ _ _) n a b = _
    rw [at_set l1 hbj hbi hb, e1 _ _ hbj hbi, e1 a b ha hb]
    by_cases c2 : bar j = a ∧ bar i = b
    · obtain ⟨rfl, rfl⟩ := c2
      rw [if_pos ⟨rfl, rfl⟩, if_pos (show (bar j = i ∧ bar i = j) ∨ (bar j = bar j ∧ bar i = bar i) from .inr ⟨rfl, rfl⟩)]
      split
      · rename_i hh
        obtain ⟨h1, h2⟩ := hh
        rw [← h1, ← h2]
        omega
      · rfl
    · rw [if_neg c2]
      by_cases c1 : i = a ∧ j = b
      · obtain ⟨rfl, rfl⟩ := c1
        rw [if_pos ⟨rfl, rfl⟩, if_pos (.inl ⟨rfl, rfl⟩)]
      · rw [if_neg c1, if_neg]
        rintro (⟨rfl, rfl⟩ | ⟨rfl, rfl⟩)
        · exact c1 ⟨rfl, rfl⟩
        · exact c2 ⟨rfl, rfl⟩
  · intro d
    induction d with
    | zero =>
      intro p x hd hp hx g1 g2
      have hpe : p = m.length := by omega
      subst hpe
      have hxe : x = m.map tk := list_ext hx (by rw [List.length_map]) (fun q hq => by rw [getD_map _ _ _ hq]; exact g1 q hq)
      subst hxe
      have hl : (((i * n + j : Nat) : Int)) < ((m.map tk).length : Int) := by rw [List.length_map, h.2.2]; have := ixn hi hj; omega
      have hl2 : (((bar j * n + bar i : Nat) : Int)) < ((m.map tk).length : Int) := by rw [List.length_map, h.2.2]; have := ixn hbj hbi; omega
      refine Ev.step (f := fun _ => some y2) (fun k => ?_) (Ev.now _)
      simp only [dbm_Set.l0]
      rw [if_neg (by omega), ix hn hi hj, if_pos (by omega), if_pos hl, taken_f]
      simp only [Option.bind_some]
      rw [xor1 j (by omega), xor1 i (by omega), ix hn hbj hbi, if_pos (by omega), if_pos hl2, rd_at, mn_min, mn_min, Int.toNat_natCast, Int.toNat_natCast, at_map h.2.2 hi hj, rd_at]
    | succ d ih =>
      intro p x hd hp hx g1 g2
      have hpl : p < m.length := by omega
      refine Ev.step (f := fun k => dbm_Set.l0 k (i : Int) (j : Int) c (x.set p (tk (x.getD p 0))) (n : Int) (m.length : Int) ((p + 1 : Nat) : Int)) (fun k => by simp only [dbm_Set.l0]; rw [if_pos (by omega), if_pos (by omega), if_pos (by omega), rd_nat, taken_f]; simp only [Option.bind_some, Int.toNat_natCast]; rw [w1 (by omega)]) ?_
      refine ih (p + 1) _ (by omega) (by omega) (by rw [List.length_set]; exact hx) (fun q hq => ?_) (fun q hq => ?_)
      · rw [getD_set _ _ _ _ (by omega)]
        by_cases e : p = q
        · rw [if_pos e, g2 p (Nat.le_refl _), e]
        · rw [if_neg e]; exact g1 q (by omega)
      · rw [getD_set _ _ _ _ (by omega), if_neg (by omega)]
        exact g2 q (by omega)
theorem set_in {m : List Int} {n : Nat} (h : Sq m n) {i j : Nat} (hi : i < n) (hj : j < n) (c : Int) : ∃ y, SetP m y n i j c ∧ Ev (fun k => dbm_Set.f k m (i : Int) (j : Int) c) y := by
  obtain ⟨y, h1, h2⟩ := set0_ev h hi hj c
  refine ⟨y, h1, ?_⟩
  have hL : m.length ≤ 256 := by rw [h.2.2]; exact Nat.mul_le_mul h.1 h.1
  refine Ev.congr (f := fun k => (dbm_size.f k m).bind fun bt147 => if bt147.2 = true then (if (i : Int) < 0 then dbm_Set.j0 k (i : Int) (j : Int) c m bt147.1 true else if (i : Int) ≥ bt147.1 then dbm_Set.j0 k (i : Int) (j : Int) c m bt147.1 true else if (j : Int) < 0 then dbm_Set.j0 k (i : Int) (j : Int) c m bt147.1 true else dbm_Set.j0 k (i : Int) (j : Int) c m bt147.1 (decide ((j : Int) ≥ bt147.1))) else dbm_Set.j0 k (i : Int) (j : Int) c m bt147.1 true) (fun k => ?_) ?_
  · unfold dbm_Set.f
    rw [if_pos (by omega), if_pos (by omega)]
    simp only [Option.bind_some, Int.toNat_natCast]
    rw [cpy_all]
  · refine Ev.bind (size_sq h).1 ?_
    refine Ev.congr (f := fun k => dbm_Set.j0 k (i : Int) (j : Int) c m (n : Int) false) (fun k => ?_) ?_
    · rw [if_pos rfl, if_neg (by omega), if_neg (by show ¬ (i : Int) ≥ (n : Int); omega), if_neg (by omega), decide_eq_false (by show ¬ (j : Int) ≥ (n : Int); omega)]
    · refine Ev.step (f := fun k => dbm_Set.l0 k (i : Int) (j : Int) c m (n : Int) (m.length : Int) ((0 : Nat) : Int)) (fun k => by simp only [dbm_Set.j0]; rw [if_neg (by decide)]; rfl) ?_
      exact h2 m.length 0 m (by omega) (by omega) rfl (fun q hq => by omega) (fun q _ => rfl)
theorem set_out {m : List Int} (hL : m.length ≤ 17592186044416) (a b c : Int) (h : ∀ n, Sq m n → a < 0 ∨ (n : Int) ≤ a ∨ b < 0 ∨ (n : Int) ≤ b) : Ev (fun k => dbm_Set.f k m a b c) m := by
  refine Ev.congr (f := fun k => (dbm_size.f k m).bind fun bt147 => if bt147.2 = true then (if a < 0 then dbm_Set.j0 k a b c m bt147.1 true else if a ≥ bt147.1 then dbm_Set.j0 k a b c m bt147.1 true else if b < 0 then dbm_Set.j0 k a b c m bt147.1 true else dbm_Set.j0 k a b c m bt147.1 (decide (b ≥ bt147.1))) else dbm_Set.j0 k a b c m bt147.1 true) (fun k => ?_) ?_
  · unfold dbm_Set.f
    rw [if_pos (by omega), if_pos (by omega)]
    simp only [Option.bind_some, Int.toNat_natCast]
    rw [cpy_all]
  · have out : ∀ N : Int, Ev (fun k => dbm_Set.j0 k a b c m N true) m := fun N => Ev.step (f := fun _ => some m) (fun k => by simp only [dbm_Set.j0]; rw [if_pos trivial]) (Ev.now _)
    rcases size_ev m with ⟨n, h1, h2, _⟩ | ⟨_, h2, _⟩
    · refine Ev.bind h2 ?_
      refine Ev.congr (f := fun k => dbm_Set.j0 k a b c m (n : Int) true) (fun k => ?_) (out _)
      have := h n h1
      rw [if_pos rfl]
      by_cases e1 : a < 0
      · rw [if_pos e1]
      · rw [if_neg e1]
        by_cases e2 : a ≥ (n : Int)
        · rw [if_pos e2]
        · rw [if_neg e2]
          by_cases e3 : b < 0
          · rw [if_pos e3]
          · rw [if_neg e3, decide_eq_true (by show b ≥ (n : Int); omega)]
    · refine Ev.bind h2 ?_
      exact Ev.congr (f := fun k => dbm_Set.j0 k a b c m 0 true) (fun k => by rw [if_neg (by decide)]) (out _)

/-! ### what Set does to values -/
theorem tk_min (x y : Int) : tk (min (tk x) (tk y)) = min (tk x) (tk y) := by
  rcases Int.le_total (tk x) (tk y) with h | h
  · rw [Int.min_eq_left h, tk_tk]
  · rw [Int.min_eq_right h, tk_tk]
section
variable {m y v : List Int} {n i j : Nat} {c : Int}
theorem SetP.le (h : SetP m y n i j c) {a b : Nat} (ha : a < n) (hb : b < n) : at_ y n a b ≤ tk (at_ m n a b) := by
  rw [h.2 a b ha hb]
  split <;> omega
theorem SetP.tk (h : SetP m y n i j c) {a b : Nat} (ha : a < n) (hb : b < n) : tk (at_ y n a b) = at_ y n a b := by
  rw [h.2 a b ha hb]
  split
  · exact tk_min _ _
  · exact tk_tk _
theorem SetP.coh (hn : n % 2 = 0) (h : SetP m y n i j c) (hm : CohP m n) : CohP y n := by
  intro a b ha hb
  have hba := bar_lt hn ha
  have hbb := bar_lt hn hb
  rw [h.tk ha hb, h.tk hbb hba, h.2 a b ha hb, h.2 _ _ hbb hba, ← hm a b ha hb]
  have e : ((a = i ∧ b = j) ∨ (a = bar j ∧ b = bar i)) ↔ ((bar b = i ∧ bar a = j) ∨ (bar b = bar j ∧ bar a = bar i)) := by
    constructor
    · rintro (⟨rfl, rfl⟩ | ⟨rfl, rfl⟩)
      · exact .inr ⟨rfl, rfl⟩
      · exact .inl ⟨bar_bar _, bar_bar _⟩
    · rintro (⟨rfl, rfl⟩ | ⟨h1, h2⟩)
      · exact .inr ⟨(bar_bar _).symm, (bar_bar _).symm⟩
      · exact .inl ⟨bar_inj h2, bar_inj h1⟩
  by_cases h1 : (a = i ∧ b = j) ∨ (a = bar j ∧ b = bar i)
  · rw [if_pos h1, if_pos (e.mp h1)]
  · rw [if_neg h1, if_neg (fun z => h1 (e.mpr z))]
theorem SetP.back (h : SetP m y n i j c) (hf : Fits y n v) : Fits m n v := by
  intro a b ha hb hfin
  have h1 := h.le ha hb
  have h2 := hf a b ha hb
  rw [h.tk ha hb] at h2
  have := h2 (by omega)
  omega
theorem SetP.fits (hn : n % 2 = 0) (h : SetP m y n i j c) (hi : i < n) (hj : j < n) (hv : n = 2 * v.length) (hR : InR v) (hf : Fits m n v) : Fits y n v ↔ val v j - val v i ≤ Go.Proofs.Ytklignhpkojmhaa.M.tk c := by
  have b1 := val_le hR (i := i) (by omega)
  have b2 := val_le hR (i := j) (by omega)
  constructor
  · intro hy
    have h1 := hy i j hi hj
    rw [h.tk hi hj, h.2 i j hi hj, if_pos (.inl ⟨rfl, rfl⟩)] at h1
    by_cases e : min (Go.Proofs.Ytklignhpkojmhaa.M.tk (at_ m n i j)) (Go.Proofs.Ytklignhpkojmhaa.M.tk c) < INF
    · have := h1 e
      omega
    · unfold INF MB at *
      omega
  · intro hc a b ha hb hfin
    rw [h.tk ha hb] at hfin ⊢
    rw [h.2 a b ha hb] at hfin ⊢
    have hm := hf a b ha hb
    have ba := val_le hR (i := a) (by omega)
    have bb := val_le hR (i := b) (by omega)
    have hm' : val v b - val v a ≤ Go.Proofs.Ytklignhpkojmhaa.M.tk (at_ m n a b) := by
      by_cases e : Go.Proofs.Ytklignhpkojmhaa.M.tk (at_ m n a b) < INF
      · exact hm e
      · unfold INF MB at *
        omega
    split
    · rename_i hh
      rcases hh with ⟨rfl, rfl⟩ | ⟨rfl, rfl⟩
      · omega
      · rw [val_bar, val_bar] at hm' ⊢
        omega
    · exact hm'
end
end Go.Proofs.Ytklignhpkojmhaa.M
