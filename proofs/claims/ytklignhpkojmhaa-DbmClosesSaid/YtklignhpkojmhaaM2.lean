/- What the program's Close computes: the closure of a matrix, or false where there is a way round below 0. -/
import Derived.Test.YtklignhpkojmhaaM1
import Derived.Test.YtklignhpkojmhaaPx14
namespace Go.Proofs.Ytklignhpkojmhaa.M
open Go Go.RowKit Go.Proofs.Ytklignhpkojmhaa.P Go.Proofs.YtklignhpkojmhaaW.PrintWords Go.Proofs.YtklignhpkojmhaaW.PrintMore Go.Proofs.YtklignhpkojmhaaO

/-! ### places of a matrix -/
theorem ixn {n i j : Nat} (hi : i < n) (hj : j < n) : i * n + j < n * n := by
  have h1 : (i + 1) * n ≤ n * n := Nat.mul_le_mul_right n hi
  rw [Nat.succ_mul] at h1
  omega
theorem ix16 {n i : Nat} (hn : n ≤ 16) (hi : i < n) : i * n ≤ 240 := by
  have : i * n ≤ 15 * 16 := Nat.mul_le_mul (by omega) hn
  omega
theorem ix {n i j : Nat} (hn : n ≤ 16) (hi : i < n) (hj : j < n) : wrap64 (wrap64 ((i : Int) * (n : Int)) + (j : Int)) = ((i * n + j : Nat) : Int) := by
  have h1 := ix16 hn hi
  have h2 : (i : Int) * (n : Int) = ((i * n : Nat) : Int) := by rw [Int.natCast_mul]
  rw [h2]
  unfold wrap64
  omega
theorem ix_inj {n i j i' j' : Nat} (hj : j < n) (hj' : j' < n) (h : i * n + j = i' * n + j') : i = i' ∧ j = j' := by
  have hii : i = i' := by
    rcases Nat.lt_trichotomy i i' with h1 | h1 | h1
    · have h2 : (i + 1) * n ≤ i' * n := Nat.mul_le_mul_right n h1
      rw [Nat.succ_mul] at h2
      omega
    · exact h1
    · have h2 : (i' + 1) * n ≤ i * n := Nat.mul_le_mul_right n h1
      rw [Nat.succ_mul] at h2
      omega
  subst hii
  exact ⟨rfl, by omega⟩
theorem w1 {p : Nat} (h : p ≤ 1000000) : wrap64 ((p : Int) + 1) = ((p + 1 : Nat) : Int) := by unfold wrap64; omega

def at_ (m : List Int) (n i j : Nat) : Int := m.getD (i * n + j) 0
theorem rd_at (m : List Int) (n i j : Nat) : rd m ((i * n + j : Nat) : Int) = at_ m n i j := by unfold rd at_; rw [Int.toNat_natCast]
theorem getD_set (m : List Int) (a b : Nat) (v : Int) (ha : a < m.length) : (m.set a v).getD b 0 = if a = b then v else m.getD b 0 := by
  rw [List.getD_eq_getElem?_getD, List.getD_eq_getElem?_getD, List.getElem?_set]
  by_cases h : a = b
  · rw [if_pos h, if_pos h, if_pos ha]; rfl
  · rw [if_neg h, if_neg h]
theorem at_set {m : List Int} {n i j i' j' : Nat} {v : Int} (hl : m.length = n * n) (hi : i < n) (hj : j < n) (hj' : j' < n) : at_ (m.set (i * n + j) v) n i' j' = if i = i' ∧ j = j' then v else at_ m n i' j' := by
  unfold at_
  rw [getD_set m _ _ v (by rw [hl]; exact ixn hi hj)]
  by_cases h : i * n + j = i' * n + j'
  · rw [if_pos h, if_pos (ix_inj hj hj' h)]
  · rw [if_neg h, if_neg (fun e => h (by rw [e.1, e.2]))]
theorem list_ext {a b : List Int} {L : Nat} (ha : a.length = L) (hb : b.length = L) (h : ∀ q, q < L → a.getD q 0 = b.getD q 0) : a = b := by
  apply List.ext_getElem (ha.trans hb.symm)
  intro q h1 h2
  have := h q (by omega)
  rwa [List.getD_eq_getElem?_getD, List.getD_eq_getElem?_getD, List.getElem?_eq_getElem h1, List.getElem?_eq_getElem h2] at this
theorem getD_map (f : Int → Int) (x : List Int) (q : Nat) (h : q < x.length) : (x.map f).getD q 0 = f (x.getD q 0) := by
  rw [List.getD_eq_getElem?_getD, List.getD_eq_getElem?_getD, List.getElem?_map, List.getElem?_eq_getElem h]; rfl
theorem at_map {f : Int → Int} {x : List Int} {n i j : Nat} (hl : x.length = n * n) (hi : i < n) (hj : j < n) : at_ (x.map f) n i j = f (at_ x n i j) := getD_map f x _ (by rw [hl]; exact ixn hi hj)
theorem at_ext {a b : List Int} {n : Nat} (ha : a.length = n * n) (hb : b.length = n * n) (h : ∀ i j, i < n → j < n → at_ a n i j = at_ b n i j) : a = b := by
  refine list_ext ha hb (fun q hq => ?_)
  have hn : 0 < n := by
    rcases Nat.eq_zero_or_pos n with h0 | h0
    · subst h0; simp at hq
    · exact h0
  have h1 : q / n < n := by rw [Nat.div_lt_iff_lt_mul hn]; exact hq
  have := h (q / n) (q % n) h1 (Nat.mod_lt _ hn)
  unfold at_ at this
  rwa [Nat.mul_comm, Nat.div_add_mod] at this

/-! ### words -/
theorem taken_f (a : Int) : dbm_taken.f a = some (tk a) := by
  unfold dbm_taken.f tk mx
  by_cases h : a > MB
  · rw [if_pos h, if_pos h]
  · rw [if_neg h, if_neg h]
theorem mn_min (a b : Int) : mn a b = min a b := by unfold mn; split <;> omega
theorem up_f {a b : Int} (ha : a = INF ∨ (-(MB * 65536) ≤ a ∧ a ≤ MB * 65536)) (hb : b = INF ∨ (-(MB * 65536) ≤ b ∧ b ≤ MB * 65536)) : bound_Up.f a b = some (up a b) := by
  have fit : ∀ {x : Int}, x = INF ∨ (-(MB * 65536) ≤ x ∧ x ≤ MB * 65536) → bound_Fit.f x = some x := by
    intro x hx
    unfold bound_Fit.f mn mx
    unfold INF MB at hx
    have : (if 4611686018427387904 < (if x < -4611686018427387904 then -4611686018427387904 else x) then 4611686018427387904 else (if x < -4611686018427387904 then -4611686018427387904 else x)) = x := by
      (repeat' split) <;> omega
    rw [this]
  unfold bound_Up.f
  rw [fit ha, fit hb]
  simp only [Option.bind_some]
  unfold up
  unfold INF MB at *
  by_cases h1 : a = 4611686018427387904
  · rw [if_pos h1, if_neg (by omega)]
  · rw [if_neg h1]
    by_cases h2 : b = 4611686018427387904
    · rw [if_pos h2, if_neg (by omega)]
    · rw [if_neg h2, if_pos (by omega)]
      have : wrap64 (a + b) = a + b := by unfold wrap64; omega
      rw [this]
      unfold mn mx
      (repeat' split) <;> first | rfl | (exfalso; omega)

/-! ### a list, number by number -/
theorem l5_ev (x : List Int) (L : Nat) (hx : x.length = L) (hL : L ≤ 1000) : ∀ (d p : Nat) (y : List Int), L - p = d → p ≤ L → y.length = L → (∀ q, q < p → y.getD q 0 = tk (x.getD q 0)) → (∀ q, p ≤ q → y.getD q 0 = x.getD q 0) → Ev (fun k => dbm_Close.l5 k y (L : Int) (p : Int)) (x.map tk, true) := by
  intro d
  induction d with
  | zero =>
    intro p y hd hp hy h1 _
    refine Ev.step (f := fun _ => some (y, true)) (fun k => by simp only [dbm_Close.l5]; rw [if_neg (by omega)]) ?_
    have : y = x.map tk := list_ext hy (by simpa using hx) (fun q hq => by rw [getD_map _ _ _ (by omega)]; exact h1 q (by omega))
    rw [this]
    exact Ev.now _
  | succ d ih =>
    intro p y hd hp hy h1 h2
    have hrd : rd y (p : Int) = y.getD p 0 := by unfold rd; rw [Int.toNat_natCast]
    refine Ev.step (f := fun k => dbm_Close.l5 k (y.set p (tk (y.getD p 0))) (L : Int) ((p + 1 : Nat) : Int)) (fun k => by simp only [dbm_Close.l5]; rw [if_pos (by omega), if_pos (by omega), if_pos (by omega), hrd, taken_f]; simp only [Option.bind_some, Int.toNat_natCast]; rw [w1 (by omega)]) ?_
    refine ih (p + 1) _ (by omega) (by omega) (by rw [List.length_set]; exact hy) (fun q hq => ?_) (fun q hq => ?_)
    · rw [getD_set _ _ _ _ (by omega)]
      by_cases e : p = q
      · rw [if_pos e, h2 p (Nat.le_refl _), e]
      · rw [if_neg e]; exact h1 q (by omega)
    · rw [getD_set _ _ _ _ (by omega), if_neg (by omega)]
      exact h2 q (by omega)

theorem l0_ev (n : Nat) (x : List Int) (L : Nat) (hx : x.length = L) (hL : L ≤ 1000) (r : List Int × Bool) (hr : Ev (fun k => dbm_Close.l1 k (n : Int) (x.map tk) (n : Int) 0) r) : ∀ (d p : Nat) (y : List Int), L - p = d → p ≤ L → y.length = L → (∀ q, q < p → y.getD q 0 = tk (x.getD q 0)) → (∀ q, p ≤ q → y.getD q 0 = x.getD q 0) → Ev (fun k => dbm_Close.l0 k (n : Int) y (L : Int) (p : Int)) r := by
  intro d
  induction d with
  | zero =>
    intro p y hd hp hy h1 _
    have : y = x.map tk := list_ext hy (by simpa using hx) (fun q hq => by rw [getD_map _ _ _ (by omega)]; exact h1 q (by omega))
    subst this
    exact Ev.step (fun k => by simp only [dbm_Close.l0]; rw [if_neg (by omega)]) hr
  | succ d ih =>
    intro p y hd hp hy h1 h2
    have hrd : rd y (p : Int) = y.getD p 0 := by unfold rd; rw [Int.toNat_natCast]
    refine Ev.step (f := fun k => dbm_Close.l0 k (n : Int) (y.set p (tk (y.getD p 0))) (L : Int) ((p + 1 : Nat) : Int)) (fun k => by simp only [dbm_Close.l0]; rw [if_pos (by omega), if_pos (by omega), if_pos (by omega), hrd, taken_f]; simp only [Option.bind_some, Int.toNat_natCast]; rw [w1 (by omega)]) ?_
    refine ih (p + 1) _ (by omega) (by omega) (by rw [List.length_set]; exact hy) (fun q hq => ?_) (fun q hq => ?_)
    · rw [getD_set _ _ _ _ (by omega)]
      by_cases e : p = q
      · rw [if_pos e, h2 p (Nat.le_refl _), e]
      · rw [if_neg e]; exact h1 q (by omega)
    · rw [getD_set _ _ _ _ (by omega), if_neg (by omega)]
      exact h2 q (by omega)

/-! ### the closure -/
def M0 (m : List Int) (n : Nat) (i j : Nat) : Int := if i = j then min (tk (at_ m n i i)) 0 else tk (at_ m n i j)
def Neg (M : Nat → Nat → Int) (n : Nat) : Prop := ∃ i l w, Wk M n i i l w ∧ w < 0
/-- r is what Close answers of m. -/
def CT (m : List Int) (n : Nat) (r : List Int × Bool) : Prop :=
  (r = ([], false) ∧ Neg (M0 m n) n) ∨ (∃ D, Closure (M0 m n) D n ∧ r.2 = true ∧ r.1.length = n * n ∧ ∀ i j, i < n → j < n → at_ r.1 n i j = tk (D i j))
theorem CT.unique {m : List Int} {n : Nat} {r r' : List Int × Bool} (h : CT m n r) (h' : CT m n r') : r = r' := by
  rcases h with ⟨rfl, i, l, w, hw, hn⟩ | ⟨D, hD, h1, h2, h3⟩ <;> rcases h' with ⟨rfl, i', l', w', hw', hn'⟩ | ⟨D', hD', h1', h2', h3'⟩
  · rfl
  · exact absurd hD' (no_closure hw hn D')
  · exact absurd hD (no_closure hw' hn' D)
  · refine Prod.ext (at_ext h2 h2' (fun i j hi hj => ?_)) (h1.trans h1'.symm)
    rw [h3 i j hi hj, h3' i j hi hj, hD.unique hD' hi hj]

section
variable {n : Nat}
/-- The state ahead of via v. -/
structure Inv (M : Nat → Nat → Int) (n v : Nat) (x : List Int) : Prop where
  len : x.length = n * n
  diag : ∀ i, i < n → at_ x n i i = 0
  bnd : ∀ i j, i < n → j < n → at_ x n i j = INF ∨ (-(MB * ((2 ^ v : Nat) : Int)) ≤ at_ x n i j ∧ at_ x n i j ≤ MB * ((2 ^ v : Nat) : Int))
  edges : Edges M (at_ x n) n
  tri : ∀ i k j, i < n → k < v → j < n → at_ x n i k < INF → at_ x n k j < INF → at_ x n i j < INF ∧ at_ x n i j ≤ at_ x n i k + at_ x n k j
  walk : ∀ i j, i < n → j < n → at_ x n i j < INF → ∃ l, Wk M n i j l (at_ x n i j)

theorem pow_le {v : Nat} (h : v ≤ 16) : (2 ^ v : Nat) ≤ 65536 ∧ 0 < (2 ^ v : Nat) := ⟨Nat.pow_le_pow_right (by omega) h, Nat.pos_of_ne_zero (by simp)⟩
theorem wide {x : List Int} {M : Nat → Nat → Int} {v : Nat} (hv : v ≤ 16) (h : Inv M n v x) {i j : Nat} (hi : i < n) (hj : j < n) : at_ x n i j = INF ∨ (-(MB * 65536) ≤ at_ x n i j ∧ at_ x n i j ≤ MB * 65536) := by
  have h1 := pow_le hv
  have h2 := h.bnd i j hi hj
  unfold MB at *
  omega

/-- A row is relaxed. -/
theorem l4_ev (hn : n ≤ 16) (x : List Int) (hx : x.length = n * n) {v i : Nat} (hv : v < n) (hi : i < n) (hwv : ∀ b, b < n → at_ x n v b = INF ∨ (-(MB * 65536) ≤ at_ x n v b ∧ at_ x n v b ≤ MB * 65536)) (hwf : at_ x n i v = INF ∨ (-(MB * 65536) ≤ at_ x n i v ∧ at_ x n i v ≤ MB * 65536))
    (h0 : at_ x n v v = 0) (hwi : ∀ b, b < n → at_ x n i b = INF ∨ (-(MB * 65536) ≤ at_ x n i b ∧ at_ x n i b ≤ MB * 65536)) (r : List Int × Bool) (x62 x63 : Int)
    (hr : ∀ y : List Int, y.length = n * n → (∀ a b, a < n → b < n → at_ y n a b = if a = i then min (at_ x n a b) (up (at_ x n i v) (at_ x n v b)) else at_ x n a b) → (0 ≤ at_ y n i i → Ev (fun k => dbm_Close.l3 k (n : Int) y (v : Int) x62 x63 (n : Int) ((i + 1 : Nat) : Int)) r) ∧ (at_ y n i i < 0 → r = ([], false))) :
    ∀ (d c : Nat) (y : List Int), n - c = d → c ≤ n → y.length = n * n → (∀ a b, a < n → b < n → at_ y n a b = if a = i ∧ b < c then min (at_ x n a b) (up (at_ x n i v) (at_ x n v b)) else at_ x n a b) →
      Ev (fun k => dbm_Close.l4 k (n : Int) y (v : Int) (i : Int) (at_ x n i v) x62 x63 (n : Int) (i : Int) (n : Int) (c : Int)) r := by
  intro d
  induction d with
  | zero =>
    intro c y hd hc hy h
    have hcn : c = n := by omega
    subst hcn
    have h' : ∀ a b, a < c → b < c → at_ y c a b = if a = i then min (at_ x c a b) (up (at_ x c i v) (at_ x c v b)) else at_ x c a b := by
      intro a b ha hb
      rw [h a b ha hb]
      by_cases e : a = i
      · rw [if_pos ⟨e, hb⟩, if_pos e]
      · rw [if_neg (fun z => e z.1), if_neg e]
    obtain ⟨g1, g2⟩ := hr y hy h'
    have hlen : (((i * c + i : Nat) : Int)) < (y.length : Int) := by rw [hy]; have := ixn hi hi; omega
    by_cases hneg : at_ y c i i < 0
    · have := g2 hneg
      subst this
      refine Ev.step (f := fun _ => some ([], false)) (fun k => by simp only [dbm_Close.l4]; rw [if_neg (by omega), ix hn hi hi, if_pos (by omega), if_pos hlen, rd_at, if_pos hneg]) (Ev.now _)
    · refine Ev.step (fun k => by simp only [dbm_Close.l4]; rw [if_neg (by omega), ix hn hi hi, if_pos (by omega), if_pos hlen, rd_at, if_neg hneg, w1 (by omega)]) (g1 (by omega))
  | succ d ih =>
    intro c y hd hc hy h
    have hcn : c < n := by omega
    have hl1 : (((i * n + c : Nat) : Int)) < (y.length : Int) := by rw [hy]; have := ixn hi hcn; omega
    have hl2 : (((v * n + c : Nat) : Int)) < (y.length : Int) := by rw [hy]; have := ixn hv hcn; omega
    have eic : at_ y n i c = at_ x n i c := by rw [h i c hi hcn, if_neg (by omega)]
    have evc : at_ y n v c = at_ x n v c := by rw [h v c hv hcn, if_neg (by omega)]
    have hup := up_f hwf (hwv c hcn)
    refine Ev.step (f := fun k => dbm_Close.l4 k (n : Int) (y.set (i * n + c) (min (at_ x n i c) (up (at_ x n i v) (at_ x n v c)))) (v : Int) (i : Int) (at_ x n i v) x62 x63 (n : Int) (i : Int) (n : Int) ((c + 1 : Nat) : Int))
      (fun k => by
        simp only [dbm_Close.l4]
        rw [if_pos (by omega), ix hn hi hcn, if_pos (by omega), if_pos hl1, ix hn hv hcn, if_pos (by omega), if_pos hl2, rd_at, evc, hup]
        simp only [Option.bind_some]
        rw [rd_at, eic, mn_min, Int.toNat_natCast, w1 (by omega)]) ?_
    refine ih (c + 1) _ (by omega) (by omega) (by rw [List.length_set]; exact hy) (fun a b ha hb => ?_)
    rw [at_set hy hi hcn hb, h a b ha hb]
    by_cases e : i = a ∧ c = b
    · obtain ⟨rfl, rfl⟩ := e
      rw [if_pos ⟨rfl, rfl⟩, if_pos ⟨rfl, by omega⟩]
    · rw [if_neg e]
      by_cases e2 : a = i ∧ b < c
      · rw [if_pos e2, if_pos ⟨e2.1, by omega⟩]
      · rw [if_neg e2, if_neg (by rintro ⟨rfl, h3⟩; exact e2 ⟨rfl, by omega⟩)]

/-- All rows by way of v. -/
theorem l3_ev (hn : n ≤ 16) (x : List Int) (hx : x.length = n * n) {v : Nat} (hv : v < n) (hw : ∀ a b, a < n → b < n → at_ x n a b = INF ∨ (-(MB * 65536) ≤ at_ x n a b ∧ at_ x n a b ≤ MB * 65536))
    (h0 : ∀ a, a < n → at_ x n a a = 0) (r : List Int × Bool)
    (hr : ∀ y : List Int, y.length = n * n → (∀ a b, a < n → b < n → at_ y n a b = min (at_ x n a b) (up (at_ x n a v) (at_ x n v b))) → (∀ i, i < n → 0 ≤ at_ y n i i) → Ev (fun k => dbm_Close.l2 k (n : Int) y (n : Int) ((v + 1 : Nat) : Int)) r)
    (hf : ∀ i, i < n → min (at_ x n i i) (up (at_ x n i v) (at_ x n v i)) < 0 → r = ([], false)) :
    ∀ (d i : Nat) (y : List Int), n - i = d → i ≤ n → y.length = n * n → (∀ a b, a < n → b < n → at_ y n a b = if a < i then min (at_ x n a b) (up (at_ x n a v) (at_ x n v b)) else at_ x n a b) → (∀ a, a < i → 0 ≤ at_ y n a a) →
      Ev (fun k => dbm_Close.l3 k (n : Int) y (v : Int) (n : Int) (v : Int) (n : Int) (i : Int)) r := by
  intro d
  induction d with
  | zero =>
    intro i y hd hi hy h hp
    have : i = n := by omega
    subst this
    refine Ev.step (fun k => by simp only [dbm_Close.l3]; rw [if_neg (by omega), w1 (by omega)]) (hr y hy (fun a b ha hb => by rw [h a b ha hb, if_pos ha]) hp)
  | succ d ih =>
    intro i y hd hi hy h hp
    have hin : i < n := by omega
    have hl1 : (((i * n + v : Nat) : Int)) < (y.length : Int) := by rw [hy]; have := ixn hin hv; omega
    have e1 : at_ y n i v = at_ x n i v := by rw [h i v hin hv, if_neg (by omega)]
    -- row v as it was
    have rowv : ∀ b, b < n → at_ y n v b = at_ x n v b := by
      intro b hb
      rw [h v b hv hb]
      by_cases e : v < i
      · rw [if_pos e, h0 v hv]
        have := hw v b hv hb
        unfold up INF MB at *
        split <;> omega
      · rw [if_neg e]
    have hwy : ∀ b, b < n → at_ y n i b = at_ x n i b := fun b hb => by rw [h i b hin hb, if_neg (by omega)]
    by_cases hinf : at_ x n i v = INF
    · refine Ev.step (f := fun k => dbm_Close.l3 k (n : Int) y (v : Int) (n : Int) (v : Int) (n : Int) ((i + 1 : Nat) : Int)) (fun k => by simp only [dbm_Close.l3]; rw [if_pos (by omega), ix hn hin hv, if_pos (by omega), if_pos hl1, rd_at, e1, if_pos hinf, w1 (by omega)]) ?_
      have same : ∀ b, b < n → min (at_ x n i b) (up (at_ x n i v) (at_ x n v b)) = at_ x n i b := by
        intro b hb
        have := hw i b hin hb
        rw [hinf]
        unfold up
        rw [if_neg (by omega)]
        unfold INF MB at *
        omega
      have hii : 0 ≤ at_ x n i i := by rw [h0 i hin]; exact Int.le_refl _
      refine ih (i + 1) y (by omega) (by omega) hy (fun a b ha hb => ?_) (fun a ha => ?_)
      · rw [h a b ha hb]
        by_cases e : a < i
        · rw [if_pos e, if_pos (by omega)]
        · rw [if_neg e]
          by_cases e2 : a = i
          · subst e2
            rw [if_pos (by omega), same b hb]
          · rw [if_neg (by omega)]
      · by_cases e : a < i
        · exact hp a e
        · have : a = i := by omega
          subst this
          rw [hwy a hin]
          exact hii
    · refine Ev.step (f := fun k => dbm_Close.l4 k (n : Int) y (v : Int) (i : Int) (at_ y n i v) (n : Int) (v : Int) (n : Int) (i : Int) (n : Int) ((0 : Nat) : Int)) (fun k => by simp only [dbm_Close.l3]; rw [if_pos (by omega), ix hn hin hv, if_pos (by omega), if_pos hl1, rd_at, if_neg (by rw [e1]; exact hinf)]; rfl) ?_
      refine l4_ev hn y hy hv hin (fun b hb => by rw [rowv b hb]; exact hw v b hv hb) (by rw [e1]; exact hw i v hin hv) (by rw [rowv v hv]; exact h0 v hv) (fun b hb => by rw [hwy b hb]; exact hw i b hin hb) r _ _ ?_ n 0 y (by omega) (by omega) hy (fun a b ha hb => by rw [if_neg (by omega)])
      intro z hz hzz
      refine ⟨fun hpos => ?_, fun hneg => ?_⟩
      · refine ih (i + 1) z (by omega) (by omega) hz (fun a b ha hb => ?_) (fun a ha => ?_)
        · rw [hzz a b ha hb]
          by_cases e : a = i
          · subst e
            rw [if_pos rfl, if_pos (by omega), hwy b hb, e1, rowv b hb]
          · rw [if_neg e, h a b ha hb]
            by_cases e2 : a < i
            · rw [if_pos e2, if_pos (by omega)]
            · rw [if_neg e2, if_neg (by omega)]
        · by_cases e : a = i
          · subst e; exact hpos
          · rw [hzz a a (by omega) (by omega), if_neg e]
            exact hp a (by omega)
      · refine hf i hin ?_
        rw [hzz i i hin hin, if_pos rfl, hwy i hin, e1, rowv i hin] at hneg
        exact hneg

/-! ### all vias -/
theorem l2_ev (hn : n ≤ 16) {m : List Int} (r : List Int × Bool)
    (hr : ∀ y : List Int, Inv (M0 m n) n n y → Ev (fun k => dbm_Close.l5 k y (y.length : Int) 0) r)
    (hf : Neg (M0 m n) n → r = ([], false)) : ∀ (d v : Nat) (x : List Int), n - v = d → v ≤ n → Inv (M0 m n) n v x → Ev (fun k => dbm_Close.l2 k (n : Int) x (n : Int) (v : Int)) r := by
  intro d
  induction d with
  | zero =>
    intro v x hd hv h
    have : v = n := by omega
    subst this
    exact Ev.step (fun k => by simp only [dbm_Close.l2]; rw [if_neg (by omega)]) (hr x h)
  | succ d ih =>
    intro v x hd hv h
    have hvn : v < n := by omega
    refine Ev.step (f := fun k => dbm_Close.l3 k (n : Int) x (v : Int) (n : Int) (v : Int) (n : Int) ((0 : Nat) : Int)) (fun k => by simp only [dbm_Close.l2]; rw [if_pos (by omega)]; rfl) ?_
    have hp := pow_le (v := v) (by omega)
    have rel : ∀ y : List Int, y.length = n * n → (∀ a b, a < n → b < n → at_ y n a b = min (at_ x n a b) (up (at_ x n a v) (at_ x n v b))) → (∀ i, i < n → 0 ≤ at_ y n i i) → Inv (M0 m n) n (v + 1) y := by
      intro y hy hyy hpos
      obtain ⟨g1, g2, g3, g4, g5⟩ := relax (B := MB * ((2 ^ v : Nat) : Int)) (by unfold INF MB; omega) hvn h.diag h.bnd h.edges h.tri h.walk hyy hpos
      refine ⟨hy, g1, fun i j hi hj => ?_, g3, g4, g5⟩
      have := g2 i j hi hj
      have e : ((2 ^ (v + 1) : Nat) : Int) = 2 * ((2 ^ v : Nat) : Int) := by rw [Nat.pow_succ]; omega
      rw [e]
      unfold MB at *
      omega
    refine l3_ev hn x h.len hvn (fun a b ha hb => wide (by omega) h ha hb) h.diag r (fun y hy hyy hpos => ih (v + 1) y (by omega) (by omega) (rel y hy hyy hpos)) (fun i hi hneg => hf ?_) n 0 x (by omega) (by omega) h.len (fun a b ha hb => by rw [if_neg (by omega)]) (fun a ha => by omega)
    -- a way round below 0
    have hi0 := h.diag i hi
    have : up (at_ x n i v) (at_ x n v i) < 0 := by omega
    unfold up at this
    split at this
    · rename_i hfin
      obtain ⟨l1, k1⟩ := h.walk i v hi hvn hfin.1
      obtain ⟨l2, k2⟩ := h.walk v i hvn hi hfin.2
      exact ⟨i, _, _, k1.append k2, this⟩
    · exact absurd this (by decide)

theorem M0_init {m x : List Int} (hx : x.length = n * n) (h : ∀ i j, i < n → j < n → at_ x n i j = if i = j then 0 else tk (at_ m n i j)) (hp : ∀ i, i < n → 0 ≤ tk (at_ m n i i)) : (∀ i j, i < n → j < n → at_ x n i j = M0 m n i j) ∧ Inv (M0 m n) n 0 x := by
  have e : ∀ i j, i < n → j < n → at_ x n i j = M0 m n i j := by
    intro i j hi hj
    rw [h i j hi hj]
    unfold M0
    by_cases hij : i = j
    · subst hij
      rw [if_pos rfl, if_pos rfl]
      have := hp i hi
      omega
    · rw [if_neg hij, if_neg hij]
  refine ⟨e, hx, fun i hi => by rw [h i i hi hi, if_pos rfl], fun i j hi hj => ?_, fun i j hi hj hM => ?_, fun i k j _ hk => absurd hk (Nat.not_lt_zero _), fun i j hi hj hfin => ?_⟩
  · rw [h i j hi hj]
    have := tk_range (at_ m n i j)
    simp only [Nat.pow_zero]
    split
    · right; unfold MB; omega
    · unfold MB at *; omega
  · rw [e i j hi hj]; exact ⟨hM, Int.le_refl _⟩
  · rw [e i j hi hj] at hfin ⊢
    exact ⟨1, Wk.edge hi hj hfin⟩

/-- The diagonal. -/
theorem l1_ev (hn : n ≤ 16) {m : List Int} (hm : m.length = n * n) (r : List Int × Bool)
    (hr : ∀ y : List Int, Inv (M0 m n) n 0 y → Ev (fun k => dbm_Close.l2 k (n : Int) y (n : Int) ((0 : Nat) : Int)) r)
    (hf : Neg (M0 m n) n → r = ([], false)) : ∀ (d p : Nat) (y : List Int), n - p = d → p ≤ n → y.length = n * n → (∀ i j, i < n → j < n → at_ y n i j = if i = j ∧ i < p then 0 else tk (at_ m n i j)) → (∀ i, i < p → 0 ≤ tk (at_ m n i i)) →
      Ev (fun k => dbm_Close.l1 k (n : Int) y (n : Int) (p : Int)) r := by
  intro d
  induction d with
  | zero =>
    intro p y hd hp hy h hpos
    have : p = n := by omega
    subst this
    refine Ev.step (f := fun k => dbm_Close.l2 k (p : Int) y (p : Int) ((0 : Nat) : Int)) (fun k => by simp only [dbm_Close.l1]; rw [if_neg (by omega)]; rfl) (hr y ?_)
    refine (M0_init hy (fun i j hi hj => ?_) (fun i hi => hpos i hi)).2
    rw [h i j hi hj]
    by_cases e : i = j
    · rw [if_pos ⟨e, hi⟩, if_pos e]
    · rw [if_neg (fun z => e z.1), if_neg e]
  | succ d ih =>
    intro p y hd hp hy h hpos
    have hpn : p < n := by omega
    have hl1 : (((p * n + p : Nat) : Int)) < (y.length : Int) := by rw [hy]; have := ixn hpn hpn; omega
    have e1 : at_ y n p p = tk (at_ m n p p) := by rw [h p p hpn hpn, if_neg (by omega)]
    by_cases hneg : tk (at_ m n p p) < 0
    · have : r = ([], false) := hf ⟨p, 1, _, Wk.edge hpn hpn (show M0 m n p p < INF by unfold M0; rw [if_pos rfl]; unfold INF; omega), by unfold M0; rw [if_pos rfl]; omega⟩
      subst this
      exact Ev.step (f := fun _ => some ([], false)) (fun k => by simp only [dbm_Close.l1]; rw [if_pos (by omega), ix hn hpn hpn, if_pos (by omega), if_pos hl1, rd_at, if_pos (by rw [e1]; exact hneg)]) (Ev.now _)
    · refine Ev.step (f := fun k => dbm_Close.l1 k (n : Int) (y.set (p * n + p) 0) (n : Int) ((p + 1 : Nat) : Int)) (fun k => by simp only [dbm_Close.l1]; rw [if_pos (by omega), ix hn hpn hpn, if_pos (by omega), if_pos hl1, rd_at, if_neg (by rw [e1]; exact hneg), Int.toNat_natCast, w1 (by omega)]) ?_
      refine ih (p + 1) _ (by omega) (by omega) (by rw [List.length_set]; exact hy) (fun i j hi hj => ?_) (fun i hi => ?_)
      · rw [at_set hy hpn hpn hj, h i j hi hj]
        by_cases e : p = i ∧ p = j
        · obtain ⟨rfl, rfl⟩ := e
          rw [if_pos ⟨rfl, rfl⟩, if_pos ⟨rfl, by omega⟩]
        · rw [if_neg e]
          by_cases e2 : i = j ∧ i < p
          · rw [if_pos e2, if_pos ⟨e2.1, by omega⟩]
          · rw [if_neg e2, if_neg (by rintro ⟨rfl, h3⟩; exact e2 ⟨rfl, by omega⟩)]
      · by_cases e : i = p
        · subst e; omega
        · exact hpos i (by omega)

/-- What Close answers of a matrix. -/
theorem close_ev (hn : n ≤ 16) {m : List Int} (hm : m.length = n * n) : ∃ r, CT m n r ∧ Ev (fun k => (dbm_Close.l0 k (n : Int) m (m.length : Int) 0)) r := by
  have hL : n * n ≤ 256 := Nat.mul_le_mul hn hn
  have go : ∀ r, ((∀ y : List Int, Inv (M0 m n) n n y → r = (y.map tk, true)) ∧ (Neg (M0 m n) n → r = ([], false))) → Ev (fun k => (dbm_Close.l0 k (n : Int) m (m.length : Int) 0)) r := by
    intro r ⟨hr, hf⟩
    refine l0_ev n m m.length rfl (by omega) r ?_ m.length 0 m (by omega) (by omega) rfl (fun q hq => by omega) (fun q _ => rfl)
    refine l1_ev hn hm r (fun y hy => ?_) hf n 0 (m.map tk) (by omega) (by omega) (by rw [List.length_map]; exact hm) (fun i j hi hj => by rw [at_map hm hi hj, if_neg (by omega)]) (fun i hi => by omega)
    refine l2_ev hn r (fun z hz => ?_) hf n 0 y (by omega) (by omega) hy
    rw [hr z hz]
    have hz' : z.length ≤ 1000 := by rw [hz.len]; omega
    exact l5_ev z z.length rfl hz' z.length 0 z (by omega) (by omega) rfl (fun q hq => by omega) (fun q _ => rfl)
  by_cases hneg : Neg (M0 m n) n
  · refine ⟨([], false), .inl ⟨rfl, hneg⟩, go _ ⟨fun y hy => ?_, fun _ => rfl⟩⟩
    exfalso
    obtain ⟨i, l, w, hw, hlt⟩ := hneg
    have := (le_walk hy.diag hy.edges (fun i k j hi hk hj => hy.tri i k j hi hk hj) hw).2
    rw [hy.diag i hw.src] at this
    omega
  · -- there is a closure: the loops end in one; which, they tell themselves
    have : ∃ y : List Int, Inv (M0 m n) n n y := by
      apply Classical.byContradiction
      intro hno
      have h1 := go ([], false) ⟨fun y hy => absurd ⟨y, hy⟩ hno, fun h => absurd h hneg⟩
      have h2 := go ([], true) ⟨fun y hy => absurd ⟨y, hy⟩ hno, fun h => absurd h hneg⟩
      obtain ⟨K, h1⟩ := h1
      obtain ⟨K', h2⟩ := h2
      have a := h1 (max K K') (by omega)
      have b := h2 (max K K') (by omega)
      have := a.symm.trans b
      simp at this
    obtain ⟨y, hy⟩ := this
    have cl : ∀ z : List Int, Inv (M0 m n) n n z → Closure (M0 m n) (at_ z n) n := fun z hz => ⟨hz.diag, hz.edges, fun i k j hi hk hj => hz.tri i k j hi hk hj, hz.walk, fun i j hi hj => by have := wide hn hz hi hj; unfold INF MB at *; omega⟩
    refine ⟨(y.map tk, true), .inr ⟨at_ y n, cl y hy, rfl, by rw [List.length_map]; exact hy.len, fun i j hi hj => at_map hy.len hi hj⟩, go _ ⟨fun z hz => ?_, fun h => absurd h hneg⟩⟩
    rw [at_ext hz.len hy.len (fun i j hi hj => (cl z hz).unique (cl y hy) hi hj)]
end
end Go.Proofs.Ytklignhpkojmhaa.M
