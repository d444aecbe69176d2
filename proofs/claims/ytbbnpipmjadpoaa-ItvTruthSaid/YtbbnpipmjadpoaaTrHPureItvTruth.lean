/- What the law's proof needs of PureItvTruth. -/
import Derived.Test.YtbbnpipmjadpoaaTrHM8
import Derived.Test.YtbbnpipmjadpoaaTrHPx60
namespace Go.Proofs.Ytbbnpipmjadpoaa.M
open Go Go.RowKit Go.Proofs.Ytbbnpipmjadpoaa.P Go.Proofs.YtbbnpipmjadpoaaW.PrintWords Go.Proofs.YtbbnpipmjadpoaaW.PrintMore
/-- the least interval of some numbers, as it is kept -/
def Rep (s : Bool) (l h : Int) (X : Int → Prop) : Prop := (s = false ∧ ∀ x, ¬ X x) ∨ (s = true ∧ X l ∧ X h ∧ ∀ x, X x → l ≤ x ∧ x ≤ h)
theorem Rep_congr {s : Bool} {l h : Int} {X Y : Int → Prop} (e : ∀ x, X x ↔ Y x) (hR : Rep s l h X) : Rep s l h Y := by
  have : X = Y := funext fun x => propext (e x)
  rw [← this]; exact hR
theorem Rep_put {s : Bool} {l h : Int} {X : Int → Prop} (hR : Rep s l h X) (x : Int) (k : Nat) : ∃ l' h', gimballaw02_whole_put.f (k + 1) s l h x = some (true, l', h') ∧ Rep true l' h' (fun u => X u ∨ u = x) := by
  rcases hR with ⟨e, hn⟩ | ⟨e, h1, h2, h3⟩
  · subst e
    refine ⟨x, x, ?_, Or.inr ⟨rfl, Or.inr rfl, Or.inr rfl, ?_⟩⟩
    · unfold gimballaw02_whole_put.f
      rw [if_neg (by decide)]
      simp only [gimballaw02_whole_put.j0]
      rw [if_neg (by omega), if_neg (by omega)]
    · intro u hu
      rcases hu with hu | hu
      · exact absurd hu (hn u)
      · omega
  · subst e
    have b := h3 l h1
    refine ⟨min l x, max h x, ?_, Or.inr ⟨rfl, ?_, ?_, ?_⟩⟩
    · unfold gimballaw02_whole_put.f
      rw [if_pos rfl]
      simp only [gimballaw02_whole_put.j0]
      by_cases g : x < l
      · rw [if_pos g, if_neg (by omega), show min l x = x by omega, show max h x = h by omega]
      · rw [if_neg g]
        by_cases g2 : x > h
        · rw [if_pos g2, show min l x = l by omega, show max h x = x by omega]
        · rw [if_neg g2, show min l x = l by omega, show max h x = h by omega]
    · by_cases g : x < l
      · right; omega
      · left; rw [show min l x = l by omega]; exact h1
    · by_cases g : x > h
      · right; omega
      · left; rw [show max h x = h by omega]; exact h2
    · intro u hu
      rcases hu with hu | hu
      · have := h3 u hu; omega
      · omega
/-- what is kept of the pairs that were looked at -/
def Inv (op : Int) (G : Int → Int → Prop) (f s1 : Bool) (l1 h1 : Int) (s2 : Bool) (l2 h2 : Int) : Prop :=
  Rep s1 l1 h1 (fun u => ∃ v, G u v ∧ ho op u v = true) ∧ Rep s2 l2 h2 (fun v => ∃ u, G u v ∧ ho op u v = true) ∧ (f = true ↔ ∃ u v, G u v ∧ ho op u v = false)
theorem Inv_congr {op : Int} {G G' : Int → Int → Prop} {f s1 : Bool} {l1 h1 : Int} {s2 : Bool} {l2 h2 : Int} (e : ∀ u v, G u v ↔ G' u v) (h : Inv op G f s1 l1 h1 s2 l2 h2) : Inv op G' f s1 l1 h1 s2 l2 h2 := by
  have : G = G' := funext fun u => funext fun v => propext (e u v)
  rw [← this]; exact h
theorem inner {op la ha lb hb : Int} (x : Int) (hb63 : hb ≤ 63) : ∀ (n k : Nat) (y : Int) (G : Int → Int → Prop) (f s1 : Bool) (l1 h1 : Int) (s2 : Bool) (l2 h2 : Int), y + n = hb + 1 → -50 ≤ y → Inv op G f s1 l1 h1 s2 l2 h2 →
    ∃ f' s1' l1' h1' s2' l2' h2', gimballaw02_ItvTruth.l1 (k + 2 + n) op f x y la ha lb hb s1 l1 h1 s2 l2 h2 = gimballaw02_ItvTruth.l0 (k + 1) op f' (wrap64 (x + 1)) la ha lb hb s1' l1' h1' s2' l2' h2' ∧
      Inv op (fun u v => G u v ∨ (u = x ∧ y ≤ v ∧ v ≤ hb)) f' s1' l1' h1' s2' l2' h2' := by
  intro n
  induction n with
  | zero =>
    intro k y G f s1 l1 h1 s2 l2 h2 hn hy hI
    refine ⟨f, s1, l1, h1, s2, l2, h2, ?_, Inv_congr (fun u v => ⟨Or.inl, fun z => z.elim id (fun z => by omega)⟩) hI⟩
    show gimballaw02_ItvTruth.l1 (k + 1 + 1) op f x y la ha lb hb s1 l1 h1 s2 l2 h2 = _
    simp only [gimballaw02_ItvTruth.l1]
    rw [if_neg (by omega)]
  | succ n ih =>
    intro k y G f s1 l1 h1 s2 l2 h2 hn hy hI
    obtain ⟨i1, i2, i3⟩ := hI
    show ∃ f' s1' l1' h1' s2' l2' h2', gimballaw02_ItvTruth.l1 (k + 2 + n + 1) op f x y la ha lb hb s1 l1 h1 s2 l2 h2 = _ ∧ _
    simp only [gimballaw02_ItvTruth.l1]
    rw [if_pos (by omega), hof, Option.bind_some, w64 (x := y + 1) (by omega) (by omega)]
    have fin : ∀ {f' s1' l1' h1' s2' l2' h2'}, Inv op (fun u v => (G u v ∨ (u = x ∧ v = y)) ∨ (u = x ∧ y + 1 ≤ v ∧ v ≤ hb)) f' s1' l1' h1' s2' l2' h2' → Inv op (fun u v => G u v ∨ (u = x ∧ y ≤ v ∧ v ≤ hb)) f' s1' l1' h1' s2' l2' h2' := by
      intro f' s1' l1' h1' s2' l2' h2' hh
      refine Inv_congr (fun u v => ⟨?_, ?_⟩) hh
      · rintro ((z | z) | z)
        · exact Or.inl z
        · exact Or.inr (by omega)
        · exact Or.inr (by omega)
      · rintro (z | z)
        · exact Or.inl (Or.inl z)
        · by_cases e : v = y
          · exact Or.inl (Or.inr ⟨z.1, e⟩)
          · exact Or.inr (by omega)
    by_cases hh : ho op x y = true
    · rw [if_pos hh]
      obtain ⟨a1, b1, e1, r1⟩ := Rep_put i1 x (k + 1 + n)
      obtain ⟨a2, b2, e2, r2⟩ := Rep_put i2 y (k + 1 + n)
      have e1' : gimballaw02_whole_put.f (k + 2 + n) s1 l1 h1 x = some (true, a1, b1) := by rw [show k + 2 + n = k + 1 + n + 1 by omega]; exact e1
      have e2' : gimballaw02_whole_put.f (k + 2 + n) s2 l2 h2 y = some (true, a2, b2) := by rw [show k + 2 + n = k + 1 + n + 1 by omega]; exact e2
      rw [e1', Option.bind_some, e2', Option.bind_some]
      dsimp only
      have hN : Inv op (fun u v => G u v ∨ (u = x ∧ v = y)) f true a1 b1 true a2 b2 := by
        refine ⟨Rep_congr (fun u => ⟨?_, ?_⟩) r1, Rep_congr (fun v => ⟨?_, ?_⟩) r2, ⟨?_, ?_⟩⟩
        · rintro (⟨v, g, e⟩ | e)
          · exact ⟨v, Or.inl g, e⟩
          · exact ⟨y, Or.inr ⟨e, rfl⟩, by rw [e]; exact hh⟩
        · rintro ⟨v, g | g, e⟩
          · exact Or.inl ⟨v, g, e⟩
          · exact Or.inr g.1
        · rintro (⟨u, g, e⟩ | e)
          · exact ⟨u, Or.inl g, e⟩
          · exact ⟨x, Or.inr ⟨rfl, e⟩, by rw [e]; exact hh⟩
        · rintro ⟨u, g | g, e⟩
          · exact Or.inl ⟨u, g, e⟩
          · exact Or.inr g.2
        · intro z
          obtain ⟨u, v, g, e⟩ := i3.mp z
          exact ⟨u, v, Or.inl g, e⟩
        · rintro ⟨u, v, g | g, e⟩
          · exact i3.mpr ⟨u, v, g, e⟩
          · rw [g.1, g.2, hh] at e
            exact absurd e (by decide)
      obtain ⟨f', s1', l1', h1', s2', l2', h2', e3, i4⟩ := ih k (y + 1) _ f true a1 b1 true a2 b2 (by omega) (by omega) hN
      exact ⟨f', s1', l1', h1', s2', l2', h2', e3, fin i4⟩
    · rw [if_neg hh]
      have hh' : ho op x y = false := by simpa using hh
      have hN : Inv op (fun u v => G u v ∨ (u = x ∧ v = y)) true s1 l1 h1 s2 l2 h2 := by
        refine ⟨Rep_congr (fun u => ⟨?_, ?_⟩) i1, Rep_congr (fun v => ⟨?_, ?_⟩) i2, ⟨fun _ => ⟨x, y, Or.inr ⟨rfl, rfl⟩, hh'⟩, fun _ => rfl⟩⟩
        · rintro ⟨v, g, e⟩; exact ⟨v, Or.inl g, e⟩
        · rintro ⟨v, g | g, e⟩
          · exact ⟨v, g, e⟩
          · rw [g.1, g.2, hh'] at e; exact absurd e (by decide)
        · rintro ⟨u, g, e⟩; exact ⟨u, Or.inl g, e⟩
        · rintro ⟨u, g | g, e⟩
          · exact ⟨u, g, e⟩
          · rw [g.1, g.2, hh'] at e; exact absurd e (by decide)
      obtain ⟨f', s1', l1', h1', s2', l2', h2', e3, i4⟩ := ih k (y + 1) _ true s1 l1 h1 s2 l2 h2 (by omega) (by omega) hN
      exact ⟨f', s1', l1', h1', s2', l2', h2', e3, fin i4⟩
theorem outer {op la ha lb hb : Int} (N : Nat) (hN : lb + N = hb + 1) (hb63 : hb ≤ 63) (hlb : -50 ≤ lb) (ha63 : ha ≤ 63) : ∀ (m : Nat) (x : Int) (f s1 : Bool) (l1 h1 : Int) (s2 : Bool) (l2 h2 : Int), x + m = ha + 1 → -50 ≤ x → la ≤ x → Inv op (fun u v => (la ≤ u ∧ u < x) ∧ lb ≤ v ∧ v ≤ hb) f s1 l1 h1 s2 l2 h2 →
    ∃ f' s1' l1' h1' s2' l2' h2', gimballaw02_ItvTruth.l0 (m * (N + 2) + 20) op f x la ha lb hb s1 l1 h1 s2 l2 h2 = gimballaw02_ItvTruth.l0 20 op f' (ha + 1) la ha lb hb s1' l1' h1' s2' l2' h2' ∧
      Inv op (fun u v => (la ≤ u ∧ u ≤ ha) ∧ lb ≤ v ∧ v ≤ hb) f' s1' l1' h1' s2' l2' h2' := by
  intro m
  induction m with
  | zero =>
    intro x f s1 l1 h1 s2 l2 h2 hm hx hx2 hI
    have e : x = ha + 1 := by omega
    refine ⟨f, s1, l1, h1, s2, l2, h2, by rw [e, Nat.zero_mul, Nat.zero_add], Inv_congr (fun u v => ?_) hI⟩
    constructor <;> (intro z; omega)
  | succ m ih =>
    intro x f s1 l1 h1 s2 l2 h2 hm hx hx2 hI
    obtain ⟨f', s1', l1', h1', s2', l2', h2', e1, i1⟩ := inner (la := la) (ha := ha) (lb := lb) x hb63 N (m * (N + 2) + 19) lb _ f s1 l1 h1 s2 l2 h2 (by omega) hlb hI
    have hk : (m + 1) * (N + 2) + 20 = m * (N + 2) + 19 + 2 + N + 1 := by rw [Nat.succ_mul]; omega
    rw [hk]
    simp only [gimballaw02_ItvTruth.l0]
    rw [if_pos (by omega), e1, w64 (x := x + 1) (by omega) (by omega)]
    exact ih (x + 1) f' s1' l1' h1' s2' l2' h2' (by omega) (by omega) (by omega) (Inv_congr (fun u v => by constructor <;> (intro z; omega)) i1)
theorem ho_oth2 (op : Int) (h : 14 ≤ op ∧ op ≤ 19) (x y : Int) (hf : ho (oth op) x y = true) : ho op x y = false := by
  cases e : ho op x y
  · rfl
  · exfalso
    rcases (by omega : op = 14 ∨ op = 15 ∨ op = 16 ∨ op = 17 ∨ op = 18 ∨ op = 19) with h | h | h | h | h | h <;> subst h
    · have a : (x != y) = true := hf
      have b : (x == y) = true := e
      rw [bne_iff_ne] at a
      exact a (beq_iff_eq.mp b)
    · have a : (x == y) = true := hf
      have b : (x != y) = true := e
      rw [bne_iff_ne] at b
      exact b (beq_iff_eq.mp a)
    · have a : decide (x ≥ y) = true := hf
      have b : decide (x < y) = true := e
      have := of_decide_eq_true a
      have := of_decide_eq_true b
      omega
    · have a : decide (x > y) = true := hf
      have b : decide (x ≤ y) = true := e
      have := of_decide_eq_true a
      have := of_decide_eq_true b
      omega
    · have a : decide (x ≤ y) = true := hf
      have b : decide (x > y) = true := e
      have := of_decide_eq_true a
      have := of_decide_eq_true b
      omega
    · have a : decide (x < y) = true := hf
      have b : decide (x ≥ y) = true := e
      have := of_decide_eq_true a
      have := of_decide_eq_true b
      omega
/-- a small interval -/
def Sm (p : Int × Int) : Prop := -40 ≤ p.1 ∧ p.1 ≤ p.2 ∧ p.2 ≤ 63
theorem Sm_S {p : Int × Int} (h : Sm p) : S p := by unfold Sm at h; unfold S; omega
theorem C_small {a b : Int} (h1 : -100 ≤ a) (h2 : a ≤ b) (h3 : b ≤ 100) : C a b = (a, b) := C_S (p := (a, b)) (by unfold S; dsimp only; omega)
/-- is a number of the one beside some number of the other -/
def XL (op : Int) (p q : Int × Int) (u : Int) : Prop := ∃ v, ((p.1 ≤ u ∧ u ≤ p.2) ∧ q.1 ≤ v ∧ v ≤ q.2) ∧ ho op u v = true
def XR (op : Int) (p q : Int × Int) (v : Int) : Prop := ∃ u, ((p.1 ≤ u ∧ u ≤ p.2) ∧ q.1 ≤ v ∧ v ≤ q.2) ∧ ho op u v = true
theorem low_small (g : Int) (_ : 0 ≤ g ∧ g ≤ 1) {p q : Int × Int} (hp : Sm p) (hq : Sm q) (h : p.1 + g ≤ q.2) : low g p q = (p.1, min p.2 (q.2 - g)) := by
  unfold Sm at hp hq
  unfold low
  rw [if_pos (by omega)]
  exact C_small (by omega) (by omega) (by omega)
theorem high_small (g : Int) (_ : 0 ≤ g ∧ g ≤ 1) {p q : Int × Int} (hp : Sm p) (hq : Sm q) (h : q.1 + g ≤ p.2) : high g p q = (max p.1 (q.1 + g), p.2) := by
  unfold Sm at hp hq
  unfold high
  rw [if_pos (by omega)]
  exact C_small (by omega) (by omega) (by omega)
theorem wo_tight {p q : Int × Int} (hp : Sm p) (hq : Sm q) (h : ¬ (p.1 = p.2 ∧ q.1 = q.2 ∧ p.1 = q.1)) : ∃ v w, (q.1 ≤ v ∧ v ≤ q.2 ∧ (wo p q).1 ≠ v) ∧ (q.1 ≤ w ∧ w ≤ q.2 ∧ (wo p q).2 ≠ w) ∧ p.1 ≤ (wo p q).1 ∧ (wo p q).1 ≤ p.2 ∧ p.1 ≤ (wo p q).2 ∧ (wo p q).2 ≤ p.2 := by
  unfold Sm at hp hq
  unfold wo
  by_cases k : q.1 = q.2
  · rw [if_pos k]
    by_cases a : q.1 = p.1
    · rw [if_pos a, C_small (by omega) (by omega) (by omega)]
      exact ⟨q.1, q.1, by dsimp only; omega⟩
    · rw [if_neg a]
      by_cases b : q.1 = p.2
      · rw [if_pos b, C_small (by omega) (by omega) (by omega)]
        exact ⟨q.1, q.1, by dsimp only; omega⟩
      · rw [if_neg b]
        exact ⟨q.1, q.1, by omega⟩
  · rw [if_neg k]
    by_cases a : p.1 = q.1
    · by_cases b : p.2 = q.1
      · exact ⟨q.2, q.2, by omega⟩
      · exact ⟨q.2, q.1, by omega⟩
    · by_cases b : p.2 = q.1
      · exact ⟨q.1, q.2, by omega⟩
      · exact ⟨q.1, q.1, by omega⟩
/-- the ends of what Test leaves are numbers that have their pair -/
theorem tight (op : Int) (h : 14 ≤ op ∧ op ≤ 19) {p q : Int × Int} (hp : Sm p) (hq : Sm q) (hpr : pr op p q = true) :
    XL op p q (tc op p q).1.1 ∧ XL op p q (tc op p q).1.2 ∧ XR op p q (tc op p q).2.1 ∧ XR op p q (tc op p q).2.2 := by
  have hp' := hp
  have hq' := hq
  unfold Sm at hp' hq'
  unfold XL XR
  rcases (by omega : op = 14 ∨ op = 15 ∨ op = 16 ∨ op = 17 ∨ op = 18 ∨ op = 19) with e | e | e | e | e | e <;> subst e
  · have a : (!decide ((mt p q).1 > (mt p q).2)) = true := hpr
    have b : ¬ (mt p q).1 > (mt p q).2 := by simpa using a
    unfold mt at b
    rw [C_none] at b
    have em : mt p q = (max p.1 q.1, min p.2 q.2) := by unfold mt; exact C_small (by omega) (by omega) (by omega)
    have et : tc 14 p q = (mt p q, mt p q) := rfl
    rw [et, em]
    dsimp only
    exact ⟨⟨max p.1 q.1, by omega, beq_self_eq_true _⟩, ⟨min p.2 q.2, by omega, beq_self_eq_true _⟩, ⟨max p.1 q.1, by omega, beq_self_eq_true _⟩, ⟨min p.2 q.2, by omega, beq_self_eq_true _⟩⟩
  · have a : (!(decide (p.1 = p.2 ∧ q.1 = q.2 ∧ p.1 = q.1))) = true := hpr
    have b : ¬ (p.1 = p.2 ∧ q.1 = q.2 ∧ p.1 = q.1) := by intro z; rw [decide_eq_true z] at a; exact absurd a (by decide)
    obtain ⟨v1, w1, t1, t2, t3⟩ := wo_tight hp hq b
    obtain ⟨v2, w2, t4, t5, t6⟩ := wo_tight hq hp (by omega)
    have et : tc 15 p q = (wo p q, wo q p) := rfl
    rw [et]
    dsimp only
    exact ⟨⟨v1, by omega, bne_iff_ne.mpr t1.2.2⟩, ⟨w1, by omega, bne_iff_ne.mpr t2.2.2⟩, ⟨v2, by omega, bne_iff_ne.mpr (fun z => t4.2.2 z.symm)⟩, ⟨w2, by omega, bne_iff_ne.mpr (fun z => t5.2.2 z.symm)⟩⟩
  · have a : p.1 < q.2 := of_decide_eq_true hpr
    have et : tc 16 p q = (low 1 p q, high 1 q p) := rfl
    rw [et, low_small 1 (by omega) hp hq (by omega), high_small 1 (by omega) hq hp (by omega)]
    dsimp only
    exact ⟨⟨q.2, by omega, decide_eq_true (by omega : p.1 < q.2)⟩, ⟨q.2, by omega, decide_eq_true (by omega : min p.2 (q.2 - 1) < q.2)⟩, ⟨p.1, by omega, decide_eq_true (by omega : p.1 < max q.1 (p.1 + 1))⟩, ⟨p.1, by omega, decide_eq_true (by omega : p.1 < q.2)⟩⟩
  · have a : p.1 ≤ q.2 := of_decide_eq_true hpr
    have et : tc 17 p q = (low 0 p q, high 0 q p) := rfl
    rw [et, low_small 0 (by omega) hp hq (by omega), high_small 0 (by omega) hq hp (by omega)]
    dsimp only
    exact ⟨⟨q.2, by omega, decide_eq_true (by omega : p.1 ≤ q.2)⟩, ⟨q.2, by omega, decide_eq_true (by omega : min p.2 (q.2 - 0) ≤ q.2)⟩, ⟨p.1, by omega, decide_eq_true (by omega : p.1 ≤ max q.1 (p.1 + 0))⟩, ⟨p.1, by omega, decide_eq_true (by omega : p.1 ≤ q.2)⟩⟩
  · have a : q.1 < p.2 := of_decide_eq_true hpr
    have et : tc 18 p q = (high 1 p q, low 1 q p) := rfl
    rw [et, high_small 1 (by omega) hp hq (by omega), low_small 1 (by omega) hq hp (by omega)]
    dsimp only
    exact ⟨⟨q.1, by omega, decide_eq_true (by omega : max p.1 (q.1 + 1) > q.1)⟩, ⟨q.1, by omega, decide_eq_true (by omega : p.2 > q.1)⟩, ⟨p.2, by omega, decide_eq_true (by omega : p.2 > q.1)⟩, ⟨p.2, by omega, decide_eq_true (by omega : p.2 > min q.2 (p.2 - 1))⟩⟩
  · have a : q.1 ≤ p.2 := of_decide_eq_true hpr
    have et : tc 19 p q = (high 0 p q, low 0 q p) := rfl
    rw [et, high_small 0 (by omega) hp hq (by omega), low_small 0 (by omega) hq hp (by omega)]
    dsimp only
    exact ⟨⟨q.1, by omega, decide_eq_true (by omega : max p.1 (q.1 + 0) ≥ q.1)⟩, ⟨q.1, by omega, decide_eq_true (by omega : p.2 ≥ q.1)⟩, ⟨p.2, by omega, decide_eq_true (by omega : p.2 ≥ q.1)⟩, ⟨p.2, by omega, decide_eq_true (by omega : p.2 ≥ min q.2 (p.2 - 0))⟩⟩
/-- what is kept at the end is what Test leaves -/
theorem Rep_end {s : Bool} {l h : Int} {X : Int → Prop} (hR : Rep s l h X) {t : Int × Int} (h1 : X t.1) (h2 : X t.2) (h3 : ∀ x, X x → In t x) : s = true ∧ l = t.1 ∧ h = t.2 := by
  rcases hR with ⟨_, hn⟩ | ⟨e, a1, a2, a3⟩
  · exact absurd h1 (hn _)
  · have b1 := h3 l a1
    have b2 := h3 h a2
    have b3 := a3 _ h1
    have b4 := a3 _ h2
    unfold In at b1 b2
    exact ⟨e, by omega, by omega⟩
theorem Rep_no {s : Bool} {l h : Int} {X : Int → Prop} (hR : Rep s l h X) (hn : ∀ x, ¬ X x) : s = false := by
  rcases hR with ⟨e, _⟩ | ⟨_, a1, _⟩
  · exact e
  · exact absurd a1 (hn _)
theorem endf {op : Int} (h : 14 ≤ op ∧ op ≤ 19) {p q : Int × Int} (hp : Sm p) (hq : Sm q) {f s1 : Bool} {l1 h1 : Int} {s2 : Bool} {l2 h2 : Int}
    (hI : Inv op (fun u v => (p.1 ≤ u ∧ u ≤ p.2) ∧ q.1 ≤ v ∧ v ≤ q.2) f s1 l1 h1 s2 l2 h2) : gimballaw02_ItvTruth.l0 20 op f (p.2 + 1) p.1 p.2 q.1 q.2 s1 l1 h1 s2 l2 h2 = some true := by
  obtain ⟨i1, i2, i3⟩ := hI
  have sp := Sm_S hp
  have sq := Sm_S hq
  have hp' := sp
  have hq' := sq
  unfold S at hp' hq'
  have n0 : ¬ (p.1 > p.2 ∨ q.1 > q.2) := by omega
  have n1 : ¬ (op < 14 ∨ op > 19) := by omega
  have hf : f = pr (oth op) p q := by
    obtain ⟨_, _, _, g4⟩ := oth_rd op h
    cases e : pr (oth op) p q
    · cases ef : f
      · rfl
      · exfalso
        obtain ⟨u, v, g, e2⟩ := i3.mp ef
        have := pr_In (oth op) g4 sp sq (x := u) (y := v) g.1 g.2 (ho_oth op h u v e2) (by unfold Sm at hp; omega) (by unfold Sm at hp; omega) (by unfold Sm at hq; omega) (by unfold Sm at hq; omega)
        rw [this] at e
        exact absurd e (by decide)
    · obtain ⟨t1, _⟩ := tight (oth op) g4 hp hq e
      obtain ⟨v, g, e2⟩ := t1
      exact i3.mpr ⟨_, v, g, ho_oth2 op h _ _ e2⟩
  have eH : HH op p q = (pr op p q, f) := by unfold HH; rw [if_neg n0, if_neg n1, hf]
  show gimballaw02_ItvTruth.l0 (19 + 1) op f (p.2 + 1) p.1 p.2 q.1 q.2 s1 l1 h1 s2 l2 h2 = some true
  simp only [gimballaw02_ItvTruth.l0]
  rw [if_neg (by omega), test1 12, Option.bind_some, holds1 10, Option.bind_some, C_S sp, C_S sq, eH]
  have eT : TT op p q = if pr op p q = true then T4 (tc op p q).1 (tc op p q).2 else (1, 0, 1, 0) := by
    unfold TT
    rw [if_neg n1, if_neg n0, tt_pr op sp sq]
  rw [eT]
  unfold gimballaw02_whole_itv.f
  cases e : pr op p q
  · have no : ∀ u v, (fun u v => (p.1 ≤ u ∧ u ≤ p.2) ∧ q.1 ≤ v ∧ v ≤ q.2) u v → ¬ ho op u v = true := by
      intro u v g e2
      have := pr_In op h sp sq (x := u) (y := v) g.1 g.2 e2 (by unfold Sm at hp; omega) (by unfold Sm at hp; omega) (by unfold Sm at hq; omega) (by unfold Sm at hq; omega)
      rw [this] at e
      exact absurd e (by decide)
    have e1 := Rep_no i1 (fun u z => by obtain ⟨v, g, e2⟩ := z; exact no u v g e2)
    have e2 := Rep_no i2 (fun v z => by obtain ⟨u, g, e2⟩ := z; exact no u v g e2)
    subst e1
    subst e2
    rw [if_neg (by decide), if_neg (by decide), if_neg (by decide), Option.bind_some]
    dsimp only
    rw [if_pos (by decide), Option.bind_some]
    dsimp only
    rw [if_pos (by decide), if_pos (by decide), beq_self_eq_true]
  · obtain ⟨t1, t2, t3, t4⟩ := tight op h hp hq e
    have inn : ∀ u v, ((p.1 ≤ u ∧ u ≤ p.2) ∧ q.1 ≤ v ∧ v ≤ q.2) → ho op u v = true → In (tc op p q).1 u ∧ In (tc op p q).2 v := by
      intro u v g e2
      exact tc_In op h (x := u) (y := v) g.1 g.2 e2 (by unfold Sm at hp; omega) (by unfold Sm at hp; omega) (by unfold Sm at hq; omega) (by unfold Sm at hq; omega)
    obtain ⟨a1, a2, a3⟩ := Rep_end i1 (t := (tc op p q).1) t1 t2 (fun u z => by obtain ⟨v, g, e2⟩ := z; exact (inn u v g e2).1)
    obtain ⟨b1, b2, b3⟩ := Rep_end i2 (t := (tc op p q).2) t3 t4 (fun v z => by obtain ⟨u, g, e2⟩ := z; exact (inn u v g e2).2)
    subst a1
    subst b1
    rw [if_pos rfl, if_pos rfl, if_pos rfl, Option.bind_some, a2, a3, b2, b3]
    unfold T4
    dsimp only
    rw [beq_self_eq_true, beq_self_eq_true, if_pos (by rfl), Option.bind_some]
    dsimp only
    rw [beq_self_eq_true, beq_self_eq_true, if_pos (by rfl), if_pos (by rfl), beq_self_eq_true]
theorem smallf (a b : Int) : ∃ p, gimballaw02_small.f a b = some p ∧ (p = (1, 0) ∨ Sm p) := by
  unfold gimballaw02_small.f
  have hb : 0 ≤ IntKind.u64.wrap b := by rw [IntKind.wrap_u64]; omega
  have ha : 0 ≤ IntKind.u64.wrap a := by rw [IntKind.wrap_u64]; omega
  have m1 : 0 ≤ Int.tmod (IntKind.u64.wrap b) 25 := Int.tmod_nonneg _ hb
  have m2 : Int.tmod (IntKind.u64.wrap b) 25 < 25 := Int.tmod_lt_of_pos _ (by omega)
  have m3 : 0 ≤ Int.tmod (IntKind.u64.wrap a) 80 := Int.tmod_nonneg _ ha
  have m4 : Int.tmod (IntKind.u64.wrap a) 80 < 80 := Int.tmod_lt_of_pos _ (by omega)
  generalize Int.tmod (IntKind.u64.wrap b) 25 = n at *
  generalize Int.tmod (IntKind.u64.wrap a) 80 = l at *
  rw [w64 (x := n) (by omega) (by omega), w64 (x := l) (by omega) (by omega), w64 (x := l - 40) (by omega) (by omega), w64 (x := l - 40 + n) (by omega) (by omega)]
  by_cases g : n = 24
  · rw [if_pos g]; exact ⟨_, rfl, Or.inl rfl⟩
  · rw [if_neg g]; exact ⟨_, rfl, Or.inr (by unfold Sm; dsimp only; omega)⟩
theorem Inv0 (op : Int) (G : Int → Int → Prop) (hG : ∀ u v, ¬ G u v) : Inv op G false false 0 0 false 0 0 := by
  refine ⟨Or.inl ⟨rfl, ?_⟩, Or.inl ⟨rfl, ?_⟩, ⟨fun z => absurd z (by decide), ?_⟩⟩
  · rintro x ⟨v, g, _⟩; exact hG _ _ g
  · rintro x ⟨v, g, _⟩; exact hG _ _ g
  · rintro ⟨u, v, g, _⟩; exact absurd g (hG _ _)
theorem end0 {op : Int} (h : 14 ≤ op ∧ op ≤ 19) {p q : Int × Int} (hp : p = (1, 0) ∨ Sm p) (hq : q = (1, 0) ∨ Sm q) (hn : p.1 > p.2 ∨ q.1 > q.2) (k : Nat) (x : Int) (hx : x > p.2) {G : Int → Int → Prop} (hG : ∀ u v, ¬ G u v)
    {f s1 : Bool} {l1 h1 : Int} {s2 : Bool} {l2 h2 : Int} (hI : Inv op G f s1 l1 h1 s2 l2 h2) : gimballaw02_ItvTruth.l0 (k + 10) op f x p.1 p.2 q.1 q.2 s1 l1 h1 s2 l2 h2 = some true := by
  have cp : C p.1 p.2 = p := by
    rcases hp with e | e
    · rw [e]; rfl
    · exact C_S (Sm_S e)
  have cq : C q.1 q.2 = q := by
    rcases hq with e | e
    · rw [e]; rfl
    · exact C_S (Sm_S e)
  obtain ⟨i1, i2, i3⟩ := hI
  have e1 := Rep_no i1 (fun u z => by obtain ⟨v, g, _⟩ := z; exact hG _ _ g)
  have e2 := Rep_no i2 (fun v z => by obtain ⟨u, g, _⟩ := z; exact hG _ _ g)
  have e3 : f = false := by
    cases ef : f
    · rfl
    · obtain ⟨u, v, g, _⟩ := i3.mp ef
      exact absurd g (hG _ _)
  subst e1
  subst e2
  subst e3
  have n1 : ¬ (op < 14 ∨ op > 19) := by omega
  have eT : TT op p q = (1, 0, 1, 0) := by unfold TT; rw [if_neg n1, if_pos hn]
  have eH : HH op p q = (false, false) := by unfold HH; rw [if_pos hn]
  simp only [gimballaw02_ItvTruth.l0]
  rw [if_neg (by omega), test1 (k + 2), Option.bind_some, holds1 k, Option.bind_some, cp, cq, eT, eH]
  rfl
end Go.Proofs.Ytbbnpipmjadpoaa.M
namespace Go.Proofs.Ytbbnpipmjadpoaa.Pure
open Go Go.RowKit Go.Proofs.Ytbbnpipmjadpoaa.P Go.Proofs.YtbbnpipmjadpoaaW.PrintWords Go.Proofs.YtbbnpipmjadpoaaW.PrintMore Go.Proofs.Ytbbnpipmjadpoaa.M
theorem ItvTruth : gimballaw02_ItvTruth.Pure := by
  intro n a b c d _ _ _ _ _
  have hn : 0 ≤ IntKind.u64.wrap n := by rw [IntKind.wrap_u64]; omega
  have m1 : 0 ≤ Int.tmod (IntKind.u64.wrap n) 6 := Int.tmod_nonneg _ hn
  have m2 : Int.tmod (IntKind.u64.wrap n) 6 < 6 := Int.tmod_lt_of_pos _ (by omega)
  obtain ⟨p, hp, pp⟩ := smallf a b
  obtain ⟨q, hq, qq⟩ := smallf c d
  unfold gimballaw02_ItvTruth.f
  rw [w64 (x := Int.tmod (IntKind.u64.wrap n) 6) (by omega) (by omega), w64 (x := 14 + Int.tmod (IntKind.u64.wrap n) 6) (by omega) (by omega), hp, hq]
  have hop : 14 ≤ 14 + Int.tmod (IntKind.u64.wrap n) 6 ∧ 14 + Int.tmod (IntKind.u64.wrap n) 6 ≤ 19 := by omega
  generalize 14 + Int.tmod (IntKind.u64.wrap n) 6 = op at *
  rcases pp with ep | sp
  · refine ⟨10, ?_⟩
    rw [Option.bind_some, Option.bind_some]
    exact end0 hop (Or.inl ep) qq (Or.inl (by rw [ep]; decide)) 0 p.1 (by rw [ep]; decide) (G := fun _ _ => False) (fun _ _ z => z) (Inv0 op _ (fun _ _ z => z))
  · have sp' := sp
    unfold Sm at sp'
    obtain ⟨N, hN⟩ : ∃ N : Nat, q.1 + N = q.2 + 1 := by
      rcases qq with e | e
      · exact ⟨0, by rw [e]; rfl⟩
      · unfold Sm at e
        exact ⟨(q.2 + 1 - q.1).toNat, by omega⟩
    obtain ⟨m, hm⟩ : ∃ m : Nat, p.1 + m = p.2 + 1 := ⟨(p.2 + 1 - p.1).toNat, by omega⟩
    have q1 : q.2 ≤ 63 ∧ -50 ≤ q.1 := by
      rcases qq with e | e
      · rw [e]; decide
      · unfold Sm at e; omega
    obtain ⟨f', s1', l1', h1', s2', l2', h2', e1, i1⟩ := outer (op := op) (la := p.1) (ha := p.2) (lb := q.1) (hb := q.2) N hN q1.1 q1.2 (by omega) m p.1 false false 0 0 false 0 0 hm (by omega) (Int.le_refl _) (Inv0 op _ (fun u v z => by omega))
    refine ⟨m * (N + 2) + 20, ?_⟩
    rw [Option.bind_some, Option.bind_some, e1]
    rcases qq with e | e
    · exact end0 hop (Or.inr sp) (Or.inl e) (Or.inr (by rw [e]; decide)) 10 (p.2 + 1) (by omega) (fun u v z => by rw [e] at z; simp only at z; omega) i1
    · exact endf hop sp e i1
end Go.Proofs.Ytbbnpipmjadpoaa.Pure
