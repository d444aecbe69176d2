/- What the law's proof needs of M12. -/
import Derived.Test.YtbbnpipmjadpoaaTrJM10
import Derived.Test.YtbbnpipmjadpoaaTrJPx61
namespace Go.Proofs.Ytbbnpipmjadpoaa.M
open Go Go.RowKit Go.Proofs.Ytbbnpipmjadpoaa.P Go.Proofs.YtbbnpipmjadpoaaW.PrintWords Go.Proofs.YtbbnpipmjadpoaaW.PrintMore
/-- the least interval of some numbers, as it is kept -/
abbrev Wh := Bool × Int × Int
def pt (a : Wh) (x : Int) : Wh := if a.1 = true then (true, min a.2.1 x, max a.2.2 x) else (true, x, x)
def pu (o : Option Int) (a : Wh) : Wh := match o with | none => a | some v => pt a v
theorem putf (k : Nat) (a : Wh) (x : Int) : gimballaw02_whole_put.f (k + 1) a.1 a.2.1 a.2.2 x = some (pt a x) := by
  unfold gimballaw02_whole_put.f pt
  by_cases g : a.1 = true
  · rw [if_pos g, if_pos g]
    simp only [gimballaw02_whole_put.j0]
    rw [g]
    by_cases g1 : x < a.2.1
    · rw [if_pos g1]
      by_cases g2 : x > a.2.2
      · rw [if_pos g2, show min a.2.1 x = x by omega, show max a.2.2 x = x by omega]
      · rw [if_neg g2, show min a.2.1 x = x by omega, show max a.2.2 x = a.2.2 by omega]
    · rw [if_neg g1]
      by_cases g2 : x > a.2.2
      · rw [if_pos g2, show min a.2.1 x = a.2.1 by omega, show max a.2.2 x = x by omega]
      · rw [if_neg g2, show min a.2.1 x = a.2.1 by omega, show max a.2.2 x = a.2.2 by omega]
  · rw [if_neg g, if_neg g]
    simp only [gimballaw02_whole_put.j0]
    rw [if_neg (by omega), if_neg (by omega)]
def Rp (a : Wh) (X : Int → Prop) : Prop := (a.1 = false ∧ ∀ x, ¬ X x) ∨ (a.1 = true ∧ X a.2.1 ∧ X a.2.2 ∧ ∀ x, X x → a.2.1 ≤ x ∧ x ≤ a.2.2)
theorem Rp_congr {a : Wh} {X Y : Int → Prop} (e : ∀ x, X x ↔ Y x) (hR : Rp a X) : Rp a Y := by
  have : X = Y := funext fun x => propext (e x)
  rw [← this]; exact hR
theorem Rp_pt {a : Wh} {X : Int → Prop} (hR : Rp a X) (x : Int) : Rp (pt a x) (fun u => X u ∨ u = x) := by
  unfold pt
  rcases hR with ⟨e, hn⟩ | ⟨e, h1, h2, h3⟩
  · rw [e, if_neg (by decide)]
    refine Or.inr ⟨rfl, Or.inr rfl, Or.inr rfl, ?_⟩
    intro u hu
    dsimp only
    rcases hu with hu | hu
    · exact absurd hu (hn u)
    · omega
  · rw [e, if_pos rfl]
    have b := h3 _ h1
    refine Or.inr ⟨rfl, ?_, ?_, ?_⟩
    · dsimp only
      by_cases g : x < a.2.1
      · right; omega
      · left; rw [show min a.2.1 x = a.2.1 by omega]; exact h1
    · dsimp only
      by_cases g : x > a.2.2
      · right; omega
      · left; rw [show max a.2.2 x = a.2.2 by omega]; exact h2
    · intro u hu
      dsimp only
      rcases hu with hu | hu
      · have := h3 u hu; omega
      · omega
theorem Rp_pu {a : Wh} {X : Int → Prop} (hR : Rp a X) (o : Option Int) : Rp (pu o a) (fun u => X u ∨ o = some u) := by
  cases o with
  | none => exact Rp_congr (fun x => ⟨Or.inl, fun z => z.elim id (fun z => by cases z)⟩) hR
  | some v => exact Rp_congr (fun x => by constructor <;> (rintro (z | z); exact Or.inl z; right; first | exact z ▸ rfl | (cases z; rfl))) (Rp_pt hR v)
def inn (c : Int → Int → Option Int) (x : Int) : Nat → Int → Wh → Wh
  | 0, _, a => a
  | n + 1, y, a => inn c x n (y + 1) (pu (c x y) a)
def out (d : Int → Option Int) (c : Int → Int → Option Int) (q1 : Int) (N : Nat) : Nat → Int → Wh → Wh
  | 0, _, a => a
  | m + 1, x, a => out d c q1 N m (x + 1) (inn c x N q1 (pu (d x) a))
theorem Rp_inn (c : Int → Int → Option Int) (x : Int) : ∀ (n : Nat) (y : Int) (a : Wh) (X : Int → Prop), Rp a X → Rp (inn c x n y a) (fun v => X v ∨ ∃ u, (y ≤ u ∧ u < y + n) ∧ c x u = some v) := by
  intro n
  induction n with
  | zero => intro y a X h; exact Rp_congr (fun v => ⟨Or.inl, fun z => z.elim id (fun ⟨u, z, _⟩ => by omega)⟩) h
  | succ n ih =>
    intro y a X h
    refine Rp_congr (fun v => ⟨?_, ?_⟩) (ih (y + 1) _ _ (Rp_pu h (c x y)))
    · rintro ((z | z) | ⟨u, z, e⟩)
      · exact Or.inl z
      · exact Or.inr ⟨y, by omega, z⟩
      · exact Or.inr ⟨u, by omega, e⟩
    · rintro (z | ⟨u, z, e⟩)
      · exact Or.inl (Or.inl z)
      · by_cases g : u = y
        · exact Or.inl (Or.inr (g ▸ e))
        · exact Or.inr ⟨u, by omega, e⟩
theorem Rp_out (d : Int → Option Int) (c : Int → Int → Option Int) (q1 : Int) (N : Nat) : ∀ (m : Nat) (x : Int) (a : Wh) (X : Int → Prop), Rp a X → Rp (out d c q1 N m x a) (fun v => X v ∨ ∃ u, (x ≤ u ∧ u < x + m) ∧ (d u = some v ∨ ∃ w, (q1 ≤ w ∧ w < q1 + N) ∧ c u w = some v)) := by
  intro m
  induction m with
  | zero => intro x a X h; exact Rp_congr (fun v => ⟨Or.inl, fun z => z.elim id (fun ⟨u, z, _⟩ => by omega)⟩) h
  | succ m ih =>
    intro x a X h
    refine Rp_congr (fun v => ⟨?_, ?_⟩) (ih (x + 1) _ _ (Rp_inn c x N q1 _ _ (Rp_pu h (d x))))
    · rintro (((z | z) | z) | ⟨u, z, e⟩)
      · exact Or.inl z
      · exact Or.inr ⟨x, by omega, Or.inl z⟩
      · exact Or.inr ⟨x, by omega, Or.inr z⟩
      · exact Or.inr ⟨u, by omega, e⟩
    · rintro (z | ⟨u, z, e⟩)
      · exact Or.inl (Or.inl (Or.inl z))
      · by_cases g : u = x
        · subst g
          rcases e with e | e
          · exact Or.inl (Or.inl (Or.inr e))
          · exact Or.inl (Or.inr e)
        · exact Or.inr ⟨u, by omega, e⟩
def L0 (k : Nat) (x : Int) (p q : Int × Int) (a b c d e f g h i j : Wh) : Option Bool := gimballaw02_ItvLeast.l0 k x p.1 p.2 q.1 q.2 a.1 a.2.1 a.2.2 b.1 b.2.1 b.2.2 c.1 c.2.1 c.2.2 d.1 d.2.1 d.2.2 e.1 e.2.1 e.2.2 f.1 f.2.1 f.2.2 g.1 g.2.1 g.2.2 h.1 h.2.1 h.2.2 i.1 i.2.1 i.2.2 j.1 j.2.1 j.2.2
def L1 (k : Nat) (x y : Int) (p q : Int × Int) (a b c d e f g h i j : Wh) : Option Bool := gimballaw02_ItvLeast.l1 k x y p.1 p.2 q.1 q.2 a.1 a.2.1 a.2.2 b.1 b.2.1 b.2.2 c.1 c.2.1 c.2.2 d.1 d.2.1 d.2.2 e.1 e.2.1 e.2.2 f.1 f.2.1 f.2.2 g.1 g.2.1 g.2.2 h.1 h.2.1 h.2.2 i.1 i.2.1 i.2.2 j.1 j.2.1 j.2.2
def L2 (k : Nat) (y : Int) (p q : Int × Int) (a b c d e f g h i j : Wh) : Option Bool := gimballaw02_ItvLeast.l2 k y p.1 p.2 q.1 q.2 a.1 a.2.1 a.2.2 b.1 b.2.1 b.2.2 c.1 c.2.1 c.2.2 d.1 d.2.1 d.2.2 e.1 e.2.1 e.2.2 f.1 f.2.1 f.2.2 g.1 g.2.1 g.2.2 h.1 h.2.1 h.2.2 i.1 i.2.1 i.2.2 j.1 j.2.1 j.2.2
def J2 (k : Nat) (x y : Int) (p q : Int × Int) (a b c d e f g h i j : Wh) : Option Bool := gimballaw02_ItvLeast.j2 k x y p.1 p.2 q.1 q.2 a.1 a.2.1 a.2.2 b.1 b.2.1 b.2.2 c.1 c.2.1 c.2.2 d.1 d.2.1 d.2.2 e.1 e.2.1 e.2.2 f.1 f.2.1 f.2.2 g.1 g.2.1 g.2.2 h.1 h.2.1 h.2.2 i.1 i.2.1 i.2.2 j.1 j.2.1 j.2.2
def c1 (x y : Int) : Option Int := some (x + y)
def c2 (x y : Int) : Option Int := some (x - y)
def c3 (x y : Int) : Option Int := some (x * y)
def c4 (x y : Int) : Option Int := some (min x y)
def c5 (x y : Int) : Option Int := some (max x y)
def c6 (x y : Int) : Option Int := if y = 0 then none else some (Int.tdiv x y)
def c7 (x y : Int) : Option Int := if x = y then some x else none
def c0 (_ _ : Int) : Option Int := none
def d0 (_ : Int) : Option Int := none
def d8 (x : Int) : Option Int := some x
def d9 (x : Int) : Option Int := some (-x)
def d10 (x : Int) : Option Int := some (if x < 0 then -x else x)
theorem sml {x y : Int} (hx : -64 ≤ x ∧ x ≤ 64) (hy : -64 ≤ y ∧ y ≤ 64) : -4096 ≤ x * y ∧ x * y ≤ 4096 ∧ -64 ≤ Int.tdiv x y ∧ Int.tdiv x y ≤ 64 := by
  have l1 := lin x hy.1 hy.2
  have := tdiv_size x y
  omega
theorem J2_step (k : Nat) {x y : Int} {p q : Int × Int} (hx : -64 ≤ x ∧ x ≤ 64) (hy : -64 ≤ y ∧ y < 64) (a b c d e f g h i j : Wh) : J2 (k + 2) x y p q a b c d e f g h i j = L1 (k + 1) x (y + 1) p q a b c d e (pu (c6 x y) f) (pu (c7 x y) g) h i j := by
  unfold J2 L1 c6 c7
  obtain ⟨_, _, t1, t2⟩ := sml hx (y := y) (by omega)
  show gimballaw02_ItvLeast.j2 (k + 1 + 1) _ _ _ _ _ _ _ _ _ _ _ _ _ _ _ _ _ _ _ _ _ _ _ _ _ _ _ _ _ _ _ _ _ _ _ _ = _
  simp only [gimballaw02_ItvLeast.j2]
  rw [putf, Option.bind_some, w64 (x := Int.tdiv x y) (by omega) (by omega), w64 (x := y + 1) (by omega) (by omega), putf, Option.bind_some, Option.bind_some]
  by_cases g1 : x = y
  · rw [if_pos g1, if_pos g1]
    by_cases g2 : y = 0
    · rw [if_pos g2, if_pos g2]; rfl
    · rw [if_neg g2, if_neg g2]; rfl
  · rw [if_neg g1, if_neg g1]
    by_cases g2 : y = 0
    · rw [if_pos g2, if_pos g2]; rfl
    · rw [if_neg g2, if_neg g2]; rfl
theorem L1_step (k : Nat) {x y : Int} {p q : Int × Int} (hx : -64 ≤ x ∧ x ≤ 64) (hy : -64 ≤ y ∧ y < 64) (hq : y ≤ q.2) (a b c d e f g h i j : Wh) :
    L1 (k + 3) x y p q a b c d e f g h i j = L1 (k + 1) x (y + 1) p q (pu (c1 x y) a) (pu (c2 x y) b) (pu (c3 x y) c) (pu (c4 x y) d) (pu (c5 x y) e) (pu (c6 x y) f) (pu (c7 x y) g) h i j := by
  rw [← J2_step k hx hy]
  obtain ⟨t1, t2, _, _⟩ := sml hx (y := y) (by omega)
  unfold L1 J2
  show gimballaw02_ItvLeast.l1 (k + 2 + 1) _ _ _ _ _ _ _ _ _ _ _ _ _ _ _ _ _ _ _ _ _ _ _ _ _ _ _ _ _ _ _ _ _ _ _ _ = _
  simp only [gimballaw02_ItvLeast.l1]
  rw [if_pos hq, w64 (x := x + y) (by omega) (by omega), w64 (x := x - y) (by omega) (by omega), w64 (x := x * y) (by omega) (by omega), putf, Option.bind_some, putf, Option.bind_some, putf, Option.bind_some]
  by_cases g1 : x < y
  · rw [if_pos g1, putf, Option.bind_some, putf, Option.bind_some]
    have e4 : c4 x y = some x := by unfold c4; rw [show min x y = x by omega]
    have e5 : c5 x y = some y := by unfold c5; rw [show max x y = y by omega]
    rw [e4, e5]; rfl
  · rw [if_neg g1, putf, Option.bind_some, putf, Option.bind_some]
    have e4 : c4 x y = some y := by unfold c4; rw [show min x y = y by omega]
    have e5 : c5 x y = some x := by unfold c5; rw [show max x y = x by omega]
    rw [e4, e5]; rfl
theorem L1_run {p q : Int × Int} (hq : q.2 < 64) {x : Int} (hx : -64 ≤ x ∧ x ≤ 63) : ∀ (n k : Nat) (y : Int) (a b c d e f g h i j : Wh), y + n = q.2 + 1 → -64 ≤ y →
    L1 (2 * n + k + 3) x y p q a b c d e f g h i j = L0 (k + 2) (x + 1) p q (inn c1 x n y a) (inn c2 x n y b) (inn c3 x n y c) (inn c4 x n y d) (inn c5 x n y e) (inn c6 x n y f) (inn c7 x n y g) h i j := by
  intro n
  induction n with
  | zero =>
    intro k y a b c d e f g h i j hn hy
    rw [show 2 * 0 + k + 3 = k + 2 + 1 by omega]
    unfold L1 L0
    simp only [gimballaw02_ItvLeast.l1]
    rw [if_neg (by omega), w64 (x := x + 1) (by omega) (by omega)]
    rfl
  | succ n ih =>
    intro k y a b c d e f g h i j hn hy
    rw [show 2 * (n + 1) + k + 3 = 2 * n + k + 2 + 3 by omega, L1_step _ (by omega) (by omega) (by omega), show 2 * n + k + 2 + 1 = 2 * n + k + 3 by omega, ih k (y + 1) _ _ _ _ _ _ _ _ _ _ (by omega) (by omega)]
    rfl
theorem L0_step (k : Nat) {x : Int} {p q : Int × Int} (hx : -64 ≤ x ∧ x ≤ 64) (hp : x ≤ p.2) (a b c d e f g h i j : Wh) : L0 (k + 2) x p q a b c d e f g h i j = L1 (k + 1) x q.1 p q a b c d e f g (pu (d8 x) h) (pu (d9 x) i) (pu (d10 x) j) := by
  unfold L0 L1
  show gimballaw02_ItvLeast.l0 (k + 1 + 1) _ _ _ _ _ _ _ _ _ _ _ _ _ _ _ _ _ _ _ _ _ _ _ _ _ _ _ _ _ _ _ _ _ _ _ = _
  simp only [gimballaw02_ItvLeast.l0]
  have es : gimballaw02_size.f x = some (if x < 0 then -x else x) := by
    unfold gimballaw02_size.f
    by_cases h : x < 0
    · rw [if_pos h, if_pos h, w64 (by omega) (by omega)]
    · rw [if_neg h, if_neg h]
  rw [if_pos hp, w64 (x := -x) (by omega) (by omega), putf, Option.bind_some, es, Option.bind_some, putf, Option.bind_some, putf, Option.bind_some]
  rfl
theorem L0_run {p q : Int × Int} (hp : p.2 < 64) (hq : q.2 < 64) (hq1 : -64 ≤ q.1) (N : Nat) (hN : q.1 + N = q.2 + 1) : ∀ (m k : Nat) (x : Int) (a b c d e f g h i j : Wh), x + m = p.2 + 1 → -64 ≤ x →
    L0 (m * (2 * N + 2) + k + 2) x p q a b c d e f g h i j = L2 (k + 1) q.1 p q (out d0 c1 q.1 N m x a) (out d0 c2 q.1 N m x b) (out d0 c3 q.1 N m x c) (out d0 c4 q.1 N m x d) (out d0 c5 q.1 N m x e) (out d0 c6 q.1 N m x f) (out d0 c7 q.1 N m x g) (out d8 c0 q.1 N m x h) (out d9 c0 q.1 N m x i) (out d10 c0 q.1 N m x j) := by
  have z : ∀ (x : Int) (n : Nat) (y : Int) (a : Wh), inn c0 x n y a = a := by
    intro x n
    induction n with
    | zero => intro y a; rfl
    | succ n ih => intro y a; exact ih (y + 1) a
  intro m
  induction m with
  | zero =>
    intro k x a b c d e f g h i j hm hx
    rw [show 0 * (2 * N + 2) + k + 2 = k + 1 + 1 by omega]
    unfold L0 L2
    simp only [gimballaw02_ItvLeast.l0]
    rw [if_neg (by omega)]
    rfl
  | succ m ih =>
    intro k x a b c d e f g h i j hm hx
    have hk : (m + 1) * (2 * N + 2) + k + 2 = 2 * N + (m * (2 * N + 2) + k) + 2 + 2 := by rw [Nat.succ_mul]; omega
    rw [hk, L0_step _ (by omega) (by omega), show 2 * N + (m * (2 * N + 2) + k) + 2 + 1 = 2 * N + (m * (2 * N + 2) + k) + 3 by omega, L1_run hq (by omega) N _ q.1 _ _ _ _ _ _ _ _ _ _ hN hq1, ih k (x + 1) _ _ _ _ _ _ _ _ _ _ (by omega) (by omega)]
    simp only [out, z]
    rfl
theorem L2_run {p q : Int × Int} (hq : q.2 < 64) : ∀ (n k : Nat) (y : Int) (a b c d e f g h i j : Wh), y + n = q.2 + 1 → -64 ≤ y →
    L2 (n + (k + 2)) y p q a b c d e f g h i j = L2 (k + 2) (q.2 + 1) p q a b c d e f g (inn (fun _ u => some u) 0 n y h) i j := by
  intro n
  induction n with
  | zero =>
    intro k y a b c d e f g h i j hn hy
    rw [show y = q.2 + 1 by omega, Nat.zero_add]
    rfl
  | succ n ih =>
    intro k y a b c d e f g h i j hn hy
    have e1 : L2 (n + 1 + (k + 2)) y p q a b c d e f g h i j = L2 (n + (k + 2)) (y + 1) p q a b c d e f g (pt h y) i j := by
      rw [show n + 1 + (k + 2) = n + k + 1 + 1 + 1 by omega, show n + (k + 2) = n + k + 1 + 1 by omega]
      unfold L2
      simp only [gimballaw02_ItvLeast.l2]
      rw [if_pos (by omega), putf, Option.bind_some, w64 (x := y + 1) (by omega) (by omega)]
    rw [e1, ih k (y + 1) _ _ _ _ _ _ _ _ _ _ (by omega) (by omega)]
    rfl
end Go.Proofs.Ytbbnpipmjadpoaa.M
