/- Shortest ways in a matrix of whole numbers with an infinity: the closure is unique, ways may be shortened; plain mathematics, no condition on any program. -/
namespace Go.Proofs.Ytklignhpkojmhaa.M

abbrev INF : Int := 4611686018427387904
abbrev MB : Int := 1099511627776
def tk (c : Int) : Int := if c > MB then INF else if c < -MB then -MB else c

theorem tk_mono {a b : Int} (h : a ≤ b) : tk a ≤ tk b := by
  unfold tk INF MB; (repeat' split) <;> omega
theorem le_tk {a : Int} (h : a ≤ INF) : a ≤ tk a := by
  unfold tk; unfold INF MB at *; (repeat' split) <;> omega
theorem tk_tk (a : Int) : tk (tk a) = tk a := by
  unfold tk INF MB; (repeat' split) <;> omega
theorem tk_range (a : Int) : tk a = INF ∨ (-MB ≤ tk a ∧ tk a ≤ MB) := by
  unfold tk INF MB; (repeat' split) <;> omega
theorem tk_fin {a : Int} (h : tk a < INF) : -MB ≤ tk a ∧ tk a ≤ MB := by
  rcases tk_range a with h1 | h1
  · rw [h1] at h; exact absurd h (Int.lt_irrefl _)
  · exact h1

/-- A way from i to j of l steps and of weight w. -/
inductive Wk (M : Nat → Nat → Int) (n : Nat) : Nat → Nat → Nat → Int → Prop
  | nil {i : Nat} : i < n → Wk M n i i 0 0
  | cons {i k j l : Nat} {w : Int} : i < n → M i k < INF → Wk M n k j l w → Wk M n i j (l + 1) (M i k + w)

section
variable {M : Nat → Nat → Int} {n : Nat}
theorem Wk.src {i j l : Nat} {w : Int} (h : Wk M n i j l w) : i < n := by cases h <;> assumption
theorem Wk.dst {i j l : Nat} {w : Int} (h : Wk M n i j l w) : j < n := by
  induction h with
  | nil h => exact h
  | cons _ _ _ ih => exact ih
theorem Wk.edge {i j : Nat} (hi : i < n) (hj : j < n) (h : M i j < INF) : Wk M n i j 1 (M i j) := by
  have := Wk.cons hi h (Wk.nil hj)
  rwa [Int.add_zero] at this
theorem Wk.append {i k j l l' : Nat} {w w' : Int} (h : Wk M n i k l w) (h' : Wk M n k j l' w') : Wk M n i j (l + l') (w + w') := by
  induction h with
  | nil hi => rw [Nat.zero_add, Int.zero_add]; exact h'
  | @cons i k j l w hi hM _ ih =>
    have := Wk.cons hi hM (ih h')
    rw [show l + 1 + l' = l + l' + 1 by omega, show M i k + w + w' = M i k + (w + w') by omega]
    exact this

/-- A matrix that is at most M and has its triangles is at most every way. -/
def Edges (M D : Nat → Nat → Int) (n : Nat) : Prop := ∀ i j, i < n → j < n → M i j < INF → D i j < INF ∧ D i j ≤ M i j
def Tri (D : Nat → Nat → Int) (n : Nat) : Prop := ∀ i k j, i < n → k < n → j < n → D i k < INF → D k j < INF → D i j < INF ∧ D i j ≤ D i k + D k j
theorem le_walk {D : Nat → Nat → Int} (h0 : ∀ i, i < n → D i i = 0) (hE : Edges M D n) (hT : Tri D n) {i j l : Nat} {w : Int} (h : Wk M n i j l w) : D i j < INF ∧ D i j ≤ w := by
  induction h with
  | nil hi => rw [h0 _ hi]; exact ⟨by decide, Int.le_refl _⟩
  | @cons i k j l w hi hM hw ih =>
    have hk := hw.src
    have hj := hw.dst
    obtain ⟨h1, h2⟩ := hE i k hi hk hM
    obtain ⟨h3, h4⟩ := hT i k j hi hk hj h1 ih.1
    exact ⟨h3, by omega⟩

/-- D is the closure of M. -/
structure Closure (M D : Nat → Nat → Int) (n : Nat) : Prop where
  diag : ∀ i, i < n → D i i = 0
  edges : Edges M D n
  tri : Tri D n
  walk : ∀ i j, i < n → j < n → D i j < INF → ∃ l, Wk M n i j l (D i j)
  inf : ∀ i j, i < n → j < n → D i j ≤ INF

theorem Closure.le {D : Nat → Nat → Int} (h : Closure M D n) {i j l : Nat} {w : Int} (hw : Wk M n i j l w) : D i j < INF ∧ D i j ≤ w := le_walk h.diag h.edges h.tri hw
theorem Closure.unique {D D' : Nat → Nat → Int} (h : Closure M D n) (h' : Closure M D' n) {i j : Nat} (hi : i < n) (hj : j < n) : D i j = D' i j := by
  have a := h.inf i j hi hj
  have b := h'.inf i j hi hj
  by_cases hd : D i j < INF
  · obtain ⟨l, hw⟩ := h.walk i j hi hj hd
    obtain ⟨h1, h2⟩ := h'.le hw
    obtain ⟨l', hw'⟩ := h'.walk i j hi hj h1
    have := (h.le hw').2
    omega
  · by_cases hd' : D' i j < INF
    · obtain ⟨l', hw'⟩ := h'.walk i j hi hj hd'
      exact absurd (h.le hw').1 hd
    · omega
/-- Where there is a closure no way round is below 0. -/
theorem Closure.pos {D : Nat → Nat → Int} (h : Closure M D n) {i l : Nat} {w : Int} (hw : Wk M n i i l w) : 0 ≤ w := by
  have := (h.le hw).2
  rwa [h.diag i hw.src] at this

/-! ### ways are shortened -/
theorem pigeon : ∀ (n : Nat) (p : Nat → Nat), (∀ t, t ≤ n → p t < n) → ∃ a b, a < b ∧ b ≤ n ∧ p a = p b
  | 0, p, h => absurd (h 0 (Nat.le_refl 0)) (Nat.not_lt_zero _)
  | n + 1, p, h => by
    by_cases hv : ∃ t, t ≤ n ∧ p t = p (n + 1)
    · obtain ⟨t, ht, e⟩ := hv
      exact ⟨t, n + 1, by omega, by omega, e⟩
    · have hv' : ∀ t, t ≤ n → p t ≠ p (n + 1) := fun t ht e => hv ⟨t, ht, e⟩
      obtain ⟨a, b, hab, hb, e⟩ := pigeon n (fun t => if p t > p (n + 1) then p t - 1 else p t) (by
        intro t ht
        have h1 := h t (by omega)
        have h2 := h (n + 1) (by omega)
        have h3 := hv' t ht
        show (if p t > p (n + 1) then p t - 1 else p t) < n
        split <;> omega)
      refine ⟨a, b, hab, by omega, ?_⟩
      have h3 := hv' a (by omega)
      have h4 := hv' b (by omega)
      split at e <;> split at e <;> omega

theorem Wk.points {i j l : Nat} {w : Int} (h : Wk M n i j l w) : ∃ (p : Nat → Nat) (q : Nat → Int), p 0 = i ∧ q 0 = 0 ∧ p l = j ∧ q l = w ∧ ∀ a b, a ≤ b → b ≤ l → Wk M n (p a) (p b) (b - a) (q b - q a) := by
  induction h with
  | @nil i hi =>
    refine ⟨fun _ => i, fun _ => 0, rfl, rfl, rfl, rfl, ?_⟩
    intro a b _ hb
    have : b - a = 0 := by omega
    rw [this]
    exact Wk.nil hi
  | @cons i k j l w hi hM hw ih =>
    obtain ⟨p, q, h1, h2, h3, h4, h5⟩ := ih
    refine ⟨fun t => if t = 0 then i else p (t - 1), fun t => if t = 0 then 0 else M i k + q (t - 1), rfl, rfl, by simp [h3], by simp [h4], ?_⟩
    intro a b hab hb
    by_cases ha : a = 0
    · subst ha
      by_cases hb0 : b = 0
      · subst hb0
        exact Wk.nil hi
      · have := Wk.cons hi hM (h1 ▸ h5 0 (b - 1) (by omega) (by omega))
        simp only [hb0, if_false, if_true]
        rw [show b - 0 = b - 1 - 0 + 1 by omega, show M i k + q (b - 1) - 0 = M i k + (q (b - 1) - q 0) by omega]
        exact this
    · have hb0 : b ≠ 0 := by omega
      simp only [ha, hb0, if_false]
      have := h5 (a - 1) (b - 1) (by omega) (by omega)
      rw [show b - a = b - 1 - (a - 1) by omega, show M i k + q (b - 1) - (M i k + q (a - 1)) = q (b - 1) - q (a - 1) by omega]
      exact this

/-- Every way has one of at most n steps that weighs no more; or a way round of at most n steps is below 0. -/
theorem shorten : ∀ (l : Nat) {i j : Nat} {w : Int}, Wk M n i j l w → (∃ l' w', l' ≤ n ∧ w' ≤ w ∧ Wk M n i j l' w') ∨ ∃ x l' w', l' ≤ n ∧ w' < 0 ∧ Wk M n x x l' w' := by
  intro l
  induction l using Nat.strongRecOn with
  | _ l ih =>
    intro i j w h
    by_cases hl : l ≤ n
    · exact .inl ⟨l, w, hl, Int.le_refl _, h⟩
    · obtain ⟨p, q, h1, h2, h3, h4, h5⟩ := h.points
      obtain ⟨a, b, hab, hb, e⟩ := pigeon n p (fun t ht => (h5 t t (Nat.le_refl _) (by omega)).src)
      have hc := h5 a b (by omega) (by omega)
      by_cases hneg : q b - q a < 0
      · rw [← e] at hc
        exact .inr ⟨p a, b - a, _, by omega, hneg, hc⟩
      · have hx := (h5 0 a (by omega) (by omega)).append (e ▸ h5 b l (by omega) (Nat.le_refl _))
        rw [h1, h3] at hx
        rcases ih (a - 0 + (l - b)) (by omega) hx with ⟨l', w', h6, h7, h8⟩ | h6
        · exact .inl ⟨l', w', h6, by omega, h8⟩
        · exact .inr h6

/-- d is at most every way of at most L steps, L being n at least, every number of it is a way's, and no way round of at most L steps is below 0: d is the closure. -/
theorem closure_of_short {d : Nat → Nat → Int} {L : Nat} (hL : n ≤ L) (hS : ∀ i j l w, l ≤ L → Wk M n i j l w → d i j < INF ∧ d i j ≤ w) (hW : ∀ i j, i < n → j < n → d i j < INF → ∃ l, Wk M n i j l (d i j)) (hI : ∀ i j, i < n → j < n → d i j ≤ INF) (h0 : ∀ i, i < n → 0 ≤ d i i) : Closure M d n := by
  have noneg : ¬ ∃ x l' w', l' ≤ n ∧ w' < 0 ∧ Wk M n x x l' w' := by
    rintro ⟨x, l', w', h1, h2, h3⟩
    have := (hS x x l' w' (by omega) h3).2
    have := h0 x h3.src
    omega
  have all : ∀ {i j l w}, Wk M n i j l w → d i j < INF ∧ d i j ≤ w := by
    intro i j l w hw
    rcases shorten l hw with ⟨l', w', h1, h2, h3⟩ | h1
    · have := hS i j l' w' (by omega) h3
      exact ⟨this.1, by omega⟩
    · exact absurd h1 noneg
  refine ⟨fun i hi => ?_, fun i j hi hj hM => ?_, fun i k j hi hk hj h1 h2 => ?_, hW, hI⟩
  · have := (all (Wk.nil (M := M) hi)).2
    have := h0 i hi
    omega
  · exact all (Wk.edge hi hj hM)
  · obtain ⟨l1, w1⟩ := hW i k hi hk h1
    obtain ⟨l2, w2⟩ := hW k j hk hj h2
    exact all (w1.append w2)
/-- .. or there is a way round below 0. -/
theorem no_closure {i l : Nat} {w : Int} (hw : Wk M n i i l w) (hn : w < 0) (D : Nat → Nat → Int) : ¬ Closure M D n := fun h => by
  have := h.pos hw
  omega

/-! ### one relaxation by way of v -/
def up (a b : Int) : Int := if a < INF ∧ b < INF then a + b else INF
theorem mup_cases {x y z : Int} (h : min x (up y z) < INF) : (x < INF ∧ min x (up y z) = x) ∨ (y < INF ∧ z < INF ∧ min x (up y z) = y + z) := by
  unfold up at *
  split at h
  · rename_i hf
    rw [if_pos hf]
    by_cases hx : x ≤ y + z
    · exact .inl ⟨by omega, by omega⟩
    · exact .inr ⟨hf.1, hf.2, by omega⟩
  · rename_i hf
    rw [if_neg hf]
    exact .inl ⟨by omega, by omega⟩
theorem mup_le2 {x y z : Int} (hy : y < INF) (hz : z < INF) : min x (up y z) ≤ y + z := by
  unfold up
  rw [if_pos ⟨hy, hz⟩]
  omega
theorem mup_1 {x y z s : Int} (h : x < INF ∧ x ≤ s) : min x (up y z) < INF ∧ min x (up y z) ≤ s := by omega
theorem mup_2 {x y z s : Int} (hy : y < INF) (hz : z < INF) (hf : y + z < INF) (h : y + z ≤ s) : min x (up y z) < INF ∧ min x (up y z) ≤ s := by
  have := mup_le2 (x := x) hy hz
  omega
theorem relax {D : Nat → Nat → Int} {v : Nat} {B : Int} (hB : 2 * B < INF) (hv : v < n) (h0 : ∀ i, i < n → D i i = 0)
    (hb : ∀ i j, i < n → j < n → D i j = INF ∨ (-B ≤ D i j ∧ D i j ≤ B)) (hE : Edges M D n)
    (hT : ∀ i k j, i < n → k < v → j < n → D i k < INF → D k j < INF → D i j < INF ∧ D i j ≤ D i k + D k j)
    (hW : ∀ i j, i < n → j < n → D i j < INF → ∃ l, Wk M n i j l (D i j)) {D' : Nat → Nat → Int} (hD : ∀ i j, i < n → j < n → D' i j = min (D i j) (up (D i v) (D v j))) (hnn : ∀ i, i < n → 0 ≤ D' i i) :
    (∀ i, i < n → D' i i = 0) ∧ (∀ i j, i < n → j < n → D' i j = INF ∨ (-(2 * B) ≤ D' i j ∧ D' i j ≤ 2 * B)) ∧ Edges M D' n ∧
    (∀ i k j, i < n → k < v + 1 → j < n → D' i k < INF → D' k j < INF → D' i j < INF ∧ D' i j ≤ D' i k + D' k j) ∧ (∀ i j, i < n → j < n → D' i j < INF → ∃ l, Wk M n i j l (D' i j)) := by
  have hv0 := h0 v hv
  refine ⟨fun i hi => ?_, fun i j hi hj => ?_, fun i j hi hj hM => ?_, fun i k j hi hk hj h1 h2 => ?_, fun i j hi hj h1 => ?_⟩
  · have a := hnn i hi
    rw [hD i i hi hi, h0 i hi] at a ⊢
    omega
  · rw [hD i j hi hj]
    have a := hb i j hi hj
    have b := hb i v hi hv
    have c := hb v j hv hj
    unfold up
    unfold INF at *
    split <;> omega
  · rw [hD i j hi hj]
    have a := hE i j hi hj hM
    omega
  · have hkn : k < n := by omega
    have fin : ∀ {x y}, x < n → y < n → D x y < INF → D x y ≤ B := fun {x y} hx hy h => by
      rcases hb x y hx hy with h' | h'
      · exact absurd h (by omega)
      · exact h'.2
    rw [hD i k hi hkn] at h1 ⊢
    rw [hD k j hkn hj] at h2 ⊢
    rw [hD i j hi hj]
    rcases Nat.lt_or_ge k v with hkv | hkv
    · rcases mup_cases h1 with ⟨a1, a2⟩ | ⟨a1, a3, a2⟩ <;> rcases mup_cases h2 with ⟨b1, b2⟩ | ⟨b1, b3, b2⟩ <;> rw [a2, b2]
      · exact mup_1 (hT i k j hi hkv hj a1 b1)
      · obtain ⟨c1, c2⟩ := hT i k v hi hkv hv a1 b1
        have f1 := fin hi hv c1
        have f2 := fin hv hj b3
        exact mup_2 c1 b3 (by omega) (by omega)
      · obtain ⟨c1, c2⟩ := hT v k j hv hkv hj a3 b1
        have f1 := fin hi hv a1
        have f2 := fin hv hj c1
        exact mup_2 a1 c1 (by omega) (by omega)
      · obtain ⟨c1, c2⟩ := hT v k v hv hkv hv a3 b1
        have f1 := fin hi hv a1
        have f2 := fin hv hj b3
        exact mup_2 a1 b3 (by omega) (by omega)
    · obtain rfl : k = v := by omega
      have x1 : D i k < INF ∧ min (D i k) (up (D i k) (D k k)) = D i k := by
        rcases mup_cases h1 with ⟨a1, a2⟩ | ⟨a1, a3, a2⟩
        · exact ⟨a1, a2⟩
        · exact ⟨a1, by omega⟩
      have x2 : D k j < INF ∧ min (D k j) (up (D k k) (D k j)) = D k j := by
        rcases mup_cases h2 with ⟨a1, a2⟩ | ⟨a1, a3, a2⟩
        · exact ⟨a1, a2⟩
        · exact ⟨a3, by omega⟩
      rw [x1.2, x2.2]
      have f1 := fin hi hkn x1.1
      have f2 := fin hkn hj x2.1
      exact mup_2 x1.1 x2.1 (by omega) (Int.le_refl _)
  · have e := hD i j hi hj
    by_cases hle : D i j ≤ up (D i v) (D v j)
    · have : D' i j = D i j := by omega
      rw [this] at h1 ⊢
      exact hW i j hi hj h1
    · have e2 : D' i j = up (D i v) (D v j) := by omega
      rw [e2] at h1 ⊢
      unfold up at h1 ⊢
      split at h1
      · rename_i hfin
        obtain ⟨l1, w1⟩ := hW i v hi hv hfin.1
        obtain ⟨l2, w2⟩ := hW v j hv hj hfin.2
        rw [if_pos hfin]
        exact ⟨_, w1.append w2⟩
      · exact absurd h1 (Int.lt_irrefl _)
end
end Go.Proofs.Ytklignhpkojmhaa.M
