/- What the law's proof needs of M1. -/
import Derived.Test.YtllfopbchdahoaaTrLO
namespace Go.Proofs.Ytllfopbchdahoaa.M
/-- A form: two scalars, each with a sign, and a number. -/
structure L5 where
  x : Int
  s : Int
  y : Int
  t : Int
  c : Int
deriving DecidableEq
def zero5 : L5 := ⟨0, 0, 0, 0, 0⟩
def Fit (l : L5) : Prop := -1099511627776 ≤ l.c ∧ l.c ≤ 1099511627776 ∧ ((l.s = 0 ∧ l.x = 0 ∧ l.y = 0 ∧ l.t = 0) ∨ ((l.s = 1 ∨ l.s = -1) ∧ 0 ≤ l.x ∧ ((l.t = 0 ∧ l.y = 0) ∨ ((l.t = 1 ∨ l.t = -1) ∧ l.x < l.y))))
instance (l : L5) : Decidable (Fit l) := by unfold Fit; infer_instance
def cf (l : L5) (z : Int) : Int := (if l.x = z then l.s else 0) + (if l.y = z then l.t else 0)
theorem cf_x {l : L5} (h : Fit l) : cf l l.x = l.s := by
  unfold cf
  rw [if_pos rfl]
  obtain ⟨_, _, h⟩ := h
  by_cases e : l.y = l.x
  · rw [if_pos e]; omega
  · rw [if_neg e]; omega
theorem cf_y {l : L5} (h : Fit l) (ht : l.t ≠ 0) : cf l l.y = l.t := by
  unfold cf
  rw [if_pos (rfl : l.y = l.y)]
  obtain ⟨_, _, h⟩ := h
  by_cases e : l.x = l.y
  · omega
  · rw [if_neg e]; omega
theorem cf_ne {l : L5} {z : Int} (h : cf l z ≠ 0) : (z = l.x ∧ l.s ≠ 0) ∨ (z = l.y ∧ l.t ≠ 0) := by
  unfold cf at h
  by_cases h1 : l.x = z <;> by_cases h2 : l.y = z <;> simp only [h1, h2, if_pos, if_neg, not_false_eq_true] at h <;> omega
/-- Two fit forms with the same coefficients and the same number are the same. -/
theorem same5 {l m : L5} (hl : Fit l) (hm : Fit m) (hc : l.c = m.c) (h : ∀ z, cf l z = cf m z) : l = m := by
  have hxl := cf_x hl
  have hxm := cf_x hm
  have hyl := cf_y hl
  have hym := cf_y hm
  have a1 : cf m l.x ≠ 0 → _ := cf_ne
  have a2 : cf m l.y ≠ 0 → _ := cf_ne
  have a3 : cf l m.x ≠ 0 → _ := cf_ne
  have a4 : cf l m.y ≠ 0 → _ := cf_ne
  have e1 := h l.x
  have e2 := h l.y
  have e3 := h m.x
  have e4 := h m.y
  obtain ⟨_, _, fl⟩ := hl
  obtain ⟨_, _, fm⟩ := hm
  have hx : l.x = m.x := by omega
  have hs : l.s = m.s := by rw [hx] at hxl e1; omega
  have ht : l.t = m.t ∧ l.y = m.y := by
    by_cases ht : l.t = 0
    · by_cases ht2 : m.t = 0
      · omega
      · have := hym ht2
        omega
    · have := hyl ht
      by_cases hy : l.y = m.y
      · rw [hy] at this e2
        by_cases ht2 : m.t = 0
        · omega
        · have := hym ht2; omega
      · omega
  cases l; cases m
  simp only at hx hs ht hc
  obtain ⟨h1, h2⟩ := ht
  subst hx hs h1 h2 hc
  rfl
def coef : List (Int × Int) → Int → Int
  | [], _ => 0
  | p :: L, z => (if p.1 = z then p.2 else 0) + coef L z
theorem coef_append (L M : List (Int × Int)) (z : Int) : coef (L ++ M) z = coef L z + coef M z := by
  induction L with
  | nil => simp [coef]
  | cons p L ih => simp only [List.cons_append, coef, ih]; omega
def Apart (L : List (Int × Int)) : Prop := L.Pairwise (fun p q => p.1 ≠ q.1)
theorem coef_none {L : List (Int × Int)} {z : Int} (h : ∀ p ∈ L, p.1 ≠ z) : coef L z = 0 := by
  induction L with
  | nil => rfl
  | cons p L ih =>
    simp only [coef, if_neg (h p List.mem_cons_self), ih (fun q hq => h q (List.mem_cons_of_mem _ hq))]
    rfl
theorem coef_mem {L : List (Int × Int)} (h : Apart L) {p : Int × Int} (hp : p ∈ L) : coef L p.1 = p.2 := by
  induction L with
  | nil => cases hp
  | cons q L ih =>
    obtain ⟨h1, h2⟩ := List.pairwise_cons.1 h
    rcases List.mem_cons.1 hp with rfl | hp
    · simp only [coef, ite_true]
      rw [coef_none (fun r hr => (h1 r hr).symm)]
      omega
    · simp only [coef]
      rw [if_neg (h1 p hp), ih h2 hp]
      omega
theorem coef_filter (L : List (Int × Int)) (z : Int) : coef (L.filter (fun p => decide (p.2 ≠ 0))) z = coef L z := by
  induction L with
  | nil => rfl
  | cons p L ih =>
    rw [List.filter_cons]
    by_cases h : p.2 = 0
    · rw [if_neg (by simp [h]), ih]
      simp only [coef, h]
      by_cases e : p.1 = z <;> simp [e]
    · rw [if_pos (by simp [h])]
      simp only [coef, ih]
theorem apart_filter {L : List (Int × Int)} (h : Apart L) (f : Int × Int → Bool) : Apart (L.filter f) := List.Pairwise.filter _ h
def mk2 (p q : Int × Int) (c : Int) : L5 := if p.1 > q.1 then ⟨q.1, q.2, p.1, p.2, c⟩ else ⟨p.1, p.2, q.1, q.2, c⟩
def cand : List (Int × Int) → Int → Option L5
  | [], c => some ⟨0, 0, 0, 0, c⟩
  | [p], c => some ⟨p.1, p.2, 0, 0, c⟩
  | [p, q], c => some (mk2 p q c)
  | _, _ => none
def told (F : List (Int × Int)) (c : Int) : L5 × Bool := match cand F c with
  | some l => if Fit l then (l, true) else (zero5, false)
  | none => (zero5, false)
theorem told_false {F : List (Int × Int)} {c : Int} (h : (told F c).2 = false) : told F c = (zero5, false) := by
  unfold told at h ⊢
  split at h
  · split at h
    · cases h
    · rename_i l h1 h2
      simp only [if_neg h2]
  · rfl
theorem told_true {F : List (Int × Int)} {c : Int} {l : L5} (h : told F c = (l, true)) : Fit l ∧ cand F c = some l := by
  unfold told at h
  split at h
  · split at h
    · rename_i m h1 h2
      cases h
      exact ⟨h2, h1⟩
    · cases h
  · cases h
theorem told_of {F : List (Int × Int)} {c : Int} {l : L5} (h : Fit l) (hc : cand F c = some l) : told F c = (l, true) := by
  unfold told
  rw [hc]
  simp only [if_pos h]
/-- What a told form says. -/
theorem told_says {F : List (Int × Int)} {c : Int} (hd : Apart F) {l : L5} (h : told F c = (l, true)) : Fit l ∧ l.c = c ∧ ∀ z, cf l z = coef F z := by
  obtain ⟨hf, hc⟩ := told_true h
  refine ⟨hf, ?_⟩
  match F, hd, hc with
  | [], _, hc => cases hc; exact ⟨rfl, fun z => by simp only [cf, coef, ite_self]; rfl⟩
  | [p], _, hc => cases hc; exact ⟨rfl, fun z => by simp only [cf, coef, ite_self]⟩
  | [p, q], hd, hc =>
    simp only [cand, Option.some.injEq] at hc
    subst hc
    unfold mk2
    split
    · exact ⟨rfl, fun z => by simp only [cf, coef]; omega⟩
    · exact ⟨rfl, fun z => by simp only [cf, coef]; omega⟩
  | p :: q :: r :: L, _, hc => simp [cand] at hc
theorem two5 {l : L5} {p q : Int × Int} {c : Int} (hfl : (l.s = 0 ∧ l.x = 0 ∧ l.y = 0 ∧ l.t = 0) ∨ ((l.s = 1 ∨ l.s = -1) ∧ 0 ≤ l.x ∧ ((l.t = 0 ∧ l.y = 0) ∨ ((l.t = 1 ∨ l.t = -1) ∧ l.x < l.y)))) (hc : l.c = c)
    (hp : (p.1 = l.x ∧ p.2 = l.s ∧ l.s ≠ 0) ∨ (p.1 = l.y ∧ p.2 = l.t ∧ l.t ≠ 0)) (hq : (q.1 = l.x ∧ q.2 = l.s ∧ l.s ≠ 0) ∨ (q.1 = l.y ∧ q.2 = l.t ∧ l.t ≠ 0)) (hne : p.1 ≠ q.1) : l = mk2 p q c := by
  unfold mk2
  cases l; simp only at hfl hc hp hq ⊢
  split <;> simp only [L5.mk.injEq] <;> omega
/-- A fit form with a list's coefficients is the one that it tells. -/
theorem told_is {F : List (Int × Int)} {c : Int} (hd : Apart F) (hz : ∀ p ∈ F, p.2 ≠ 0) {l : L5} (hf : Fit l) (hc : l.c = c) (h : ∀ z, cf l z = coef F z) : told F c = (l, true) := by
  have key : ∀ p ∈ F, (p.1 = l.x ∧ p.2 = l.s ∧ l.s ≠ 0) ∨ (p.1 = l.y ∧ p.2 = l.t ∧ l.t ≠ 0) := by
    intro p hp
    have h1 : cf l p.1 = p.2 := (h p.1).trans (coef_mem hd hp)
    rcases cf_ne (by rw [h1]; exact hz p hp) with ⟨e, hs⟩ | ⟨e, ht⟩
    · exact .inl ⟨e, by rw [← h1, e, cf_x hf], hs⟩
    · exact .inr ⟨e, by rw [← h1, e, cf_y hf ht], ht⟩
  have hx : l.s ≠ 0 → ∃ p ∈ F, p.1 = l.x := by
    intro hs
    by_cases hn : ∃ p ∈ F, p.1 = l.x
    · exact hn
    · have := coef_none (L := F) (z := l.x) (fun p hp e => hn ⟨p, hp, e⟩)
      rw [← h, cf_x hf] at this
      exact absurd this hs
  have hy : l.t ≠ 0 → ∃ p ∈ F, p.1 = l.y := by
    intro ht
    by_cases hn : ∃ p ∈ F, p.1 = l.y
    · exact hn
    · have := coef_none (L := F) (z := l.y) (fun p hp e => hn ⟨p, hp, e⟩)
      rw [← h, cf_y hf ht] at this
      exact absurd this ht
  refine told_of hf ?_
  have hfl := hf.2.2
  match F, hd, key, hx, hy with
  | [], _, _, hx, hy =>
    have hs : l.s = 0 := by
      by_cases hs : l.s = 0
      · exact hs
      · obtain ⟨p, hp, _⟩ := hx hs; cases hp
    have e : l = ⟨0, 0, 0, 0, c⟩ := by
      clear hx hy
      cases l; simp only at hs hfl hc ⊢; simp only [L5.mk.injEq]; omega
    rw [e]; rfl
  | [p], _, key, hx, hy =>
    have hp := key p List.mem_cons_self
    have e : l = ⟨p.1, p.2, 0, 0, c⟩ := by
      have h1 : l.t ≠ 0 → p.1 = l.y := fun ht => by
        obtain ⟨q, hq, e⟩ := hy ht
        rw [List.mem_singleton.1 hq] at e; exact e
      have h2 : l.s ≠ 0 → p.1 = l.x := fun ht => by
        obtain ⟨q, hq, e⟩ := hx ht
        rw [List.mem_singleton.1 hq] at e; exact e
      clear hx hy key
      cases l; simp only at hfl hc hp h1 h2 ⊢; simp only [L5.mk.injEq]; omega
    rw [e]; rfl
  | [p, q], hd, key, hx, hy =>
    have hp := key p List.mem_cons_self
    have hq := key q (List.mem_cons_of_mem _ List.mem_cons_self)
    have hne : p.1 ≠ q.1 := (List.pairwise_cons.1 hd).1 q List.mem_cons_self
    rw [two5 hfl hc hp hq hne]; rfl
  | p :: q :: r :: L, hd, key, hx, hy =>
    exfalso
    have hp := key p List.mem_cons_self
    have hq := key q (List.mem_cons_of_mem _ List.mem_cons_self)
    have hr := key r (List.mem_cons_of_mem _ (List.mem_cons_of_mem _ List.mem_cons_self))
    obtain ⟨h1, h2⟩ := List.pairwise_cons.1 hd
    obtain ⟨h3, _⟩ := List.pairwise_cons.1 h2
    have n1 := h1 q List.mem_cons_self
    have n2 := h1 r (List.mem_cons_of_mem _ List.mem_cons_self)
    have n3 := h3 r List.mem_cons_self
    clear hx hy key h1 h2 h3
    omega
/-- What is told hangs on the coefficients alone. -/
theorem told_ext {F G : List (Int × Int)} {c : Int} (hF : Apart F) (hG : Apart G) (zF : ∀ p ∈ F, p.2 ≠ 0) (zG : ∀ p ∈ G, p.2 ≠ 0) (h : ∀ z, coef F z = coef G z) : told F c = told G c := by
  rcases hb : told F c with ⟨l, b⟩
  cases b with
  | true =>
    obtain ⟨h1, h2, h3⟩ := told_says hF hb
    exact (told_is hG zG h1 h2 (fun z => (h3 z).trans (h z))).symm
  | false =>
    rcases hg : told G c with ⟨m, b⟩
    cases b with
    | true =>
      obtain ⟨h1, h2, h3⟩ := told_says hG hg
      rw [told_is hF zF h1 h2 (fun z => (h3 z).trans (h z).symm)] at hb
      cases hb
    | false =>
      rw [← hb, ← hg, told_false (by rw [hb]), told_false (by rw [hg])]
end Go.Proofs.Ytllfopbchdahoaa.M
