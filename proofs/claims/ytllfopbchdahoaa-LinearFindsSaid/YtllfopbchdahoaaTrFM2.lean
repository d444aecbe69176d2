import Derived.Test.YtllfopbchdahoaaTrFO
/- What the law's proof needs of M1. -/
namespace Go.Proofs.Ytllfopbchdahoaa.M
/-- A form: two scalars, each with a sign, and a number. -/
structure L5 where
  x : Int
  s : Int
  y : Int
  t : Int
  c : Int
deriving DecidableEq
def zero5 : L5 := ⟨0, 0, 0, 0, 0⟩
def Fit (l : L5) : Prop := -1099511627776 ≤ l.c ∧ l.c ≤ 1099511627776 ∧ ((l.s = 0 ∧ l.x = 0 ∧ l.y = 0 ∧ l.t = 0) ∨ ((l.s = 1 ∨ l.s = -1) ∧ 0 ≤ l.x ∧ ((l.t = 0 ∧ l.y = 0) ∨ ((l.t = 1 ∨ l.t = -1) ∧ l.x < l.y))))
instance (l : L5) : Decidable (Fit l) := by unfold Fit; infer_instance
def cf (l : L5) (z : Int) : Int := (if l.x = z then l.s else 0) + (if l.y = z then l.t else 0)
theorem cf_x {l : L5} (h : Fit l) : cf l l.x = l.s := by
  unfold cf
  rw [if_pos rfl]
  obtain ⟨_, _, h⟩ := h
  by_cases e : l.y = l.x
  · rw [if_pos e]; omega
  · rw [if_neg e]; omega
theorem cf_y {l : L5} (h : Fit l) (ht : l.t ≠ 0) : cf l l.y = l.t := by
  unfold cf
  rw [if_pos (rfl : l.y = l.y)]
  obtain ⟨_, _, h⟩ := h
  by_cases e : l.x = l.y
  · omega
  · rw [if_neg e]; omega
theorem cf_ne {l : L5} {z : Int} (h : cf l z ≠ 0) : (z = l.x ∧ l.s ≠ 0) ∨ (z = l.y ∧ l.t ≠ 0) := by
  unfold cf at h
  by_cases h1 : l.x = z <;> by_cases h2 : l.y = z <;> simp only [h1, h2, if_pos, if_neg, not_false_eq_true] at h <;> omega
def coef : List (Int × Int) → Int → Int
  | [], _ => 0
  | p :: L, z => (if p.1 = z then p.2 else 0) + coef L z
theorem coef_append (L M : List (Int × Int)) (z : Int) : coef (L ++ M) z = coef L z + coef M z := by
  induction L with
  | nil => simp [coef]
  | cons p L ih => simp only [List.cons_append, coef, ih]; omega
def Apart (L : List (Int × Int)) : Prop := L.Pairwise (fun p q => p.1 ≠ q.1)
theorem coef_none {L : List (Int × Int)} {z : Int} (h : ∀ p ∈ L, p.1 ≠ z) : coef L z = 0 := by
  induction L with
  | nil => rfl
  | cons p L ih =>
    simp only [coef, if_neg (h p List.mem_cons_self), ih (fun q hq => h q (List.mem_cons_of_mem _ hq))]
    rfl
theorem coef_mem {L : List (Int × Int)} (h : Apart L) {p : Int × Int} (hp : p ∈ L) : coef L p.1 = p.2 := by
  induction L with
  | nil => cases hp
  | cons q L ih =>
    obtain ⟨h1, h2⟩ := List.pairwise_cons.1 h
    rcases List.mem_cons.1 hp with rfl | hp
    · simp only [coef, ite_true]
      rw [coef_none (fun r hr => (h1 r hr).symm)]
      omega
    · simp only [coef]
      rw [if_neg (h1 p hp), ih h2 hp]
      omega
theorem coef_filter (L : List (Int × Int)) (z : Int) : coef (L.filter (fun p => decide (p.2 ≠ 0))) z = coef L z := by
  induction L with
  | nil => rfl
  | cons p L ih =>
    rw [List.filter_cons]
    by_cases h : p.2 = 0
    · rw [if_neg (by simp [h]), ih]
      simp only [coef, h]
      by_cases e : p.1 = z <;> simp [e]
    · rw [if_pos (by simp [h])]
      simp only [coef, ih]
theorem apart_filter {L : List (Int × Int)} (h : Apart L) (f : Int × Int → Bool) : Apart (L.filter f) := List.Pairwise.filter _ h
def mk2 (p q : Int × Int) (c : Int) : L5 := if p.1 > q.1 then ⟨q.1, q.2, p.1, p.2, c⟩ else ⟨p.1, p.2, q.1, q.2, c⟩
def cand : List (Int × Int) → Int → Option L5
  | [], c => some ⟨0, 0, 0, 0, c⟩
  | [p], c => some ⟨p.1, p.2, 0, 0, c⟩
  | [p, q], c => some (mk2 p q c)
  | _, _ => none
def told (F : List (Int × Int)) (c : Int) : L5 × Bool := match cand F c with
  | some l => if Fit l then (l, true) else (zero5, false)
  | none => (zero5, false)
theorem told_false {F : List (Int × Int)} {c : Int} (h : (told F c).2 = false) : told F c = (zero5, false) := by
  unfold told at h ⊢
  split at h
  · split at h
    · cases h
    · rename_i l h1 h2
      simp only [if_neg h2]
  · rfl
theorem told_true {F : List (Int × Int)} {c : Int} {l : L5} (h : told F c = (l, true)) : Fit l ∧ cand F c = some l := by
  unfold told at h
  split at h
  · split at h
    · rename_i m h1 h2
      cases h
      exact ⟨h2, h1⟩
    · cases h
  · cases h
theorem told_of {F : List (Int × Int)} {c : Int} {l : L5} (h : Fit l) (hc : cand F c = some l) : told F c = (l, true) := by
  unfold told
  rw [hc]
  simp only [if_pos h]
/-- What a told form says. -/
theorem told_says {F : List (Int × Int)} {c : Int} (hd : Apart F) {l : L5} (h : told F c = (l, true)) : Fit l ∧ l.c = c ∧ ∀ z, cf l z = coef F z := by
  obtain ⟨hf, hc⟩ := told_true h
  refine ⟨hf, ?_⟩
  match F, hd, hc with
  | [], _, hc => cases hc; exact ⟨rfl, fun z => by simp only [cf, coef, ite_self]; rfl⟩
  | [p], _, hc => cases hc; exact ⟨rfl, fun z => by simp only [cf, coef, ite_self]⟩
  | [p, q], hd, hc =>
    simp only [cand, Option.some.injEq] at hc
    subst hc
    unfold mk2
    split
    · exact ⟨rfl, fun z => by simp only [cf, coef]; omega⟩
    · exact ⟨rfl, fun z => by simp only [cf, coef]; omega⟩
  | p :: q :: r :: L, _, hc => simp [cand] at hc
theorem two5 {l : L5} {p q : Int × Int} {c : Int} (hfl : (l.s = 0 ∧ l.x = 0 ∧ l.y = 0 ∧ l.t = 0) ∨ ((l.s = 1 ∨ l.s = -1) ∧ 0 ≤ l.x ∧ ((l.t = 0 ∧ l.y = 0) ∨ ((l.t = 1 ∨ l.t = -1) ∧ l.x < l.y)))) (hc : l.c = c)
    (hp : (p.1 = l.x ∧ p.2 = l.s ∧ l.s ≠ 0) ∨ (p.1 = l.y ∧ p.2 = l.t ∧ l.t ≠ 0)) (hq : (q.1 = l.x ∧ q.2 = l.s ∧ l.s ≠ 0) ∨ (q.1 = l.y ∧ q.2 = l.t ∧ l.t ≠ 0)) (hne : p.1 ≠ q.1) : l = mk2 p q c := by
  unfold mk2
  cases l; simp only at hfl hc hp hq ⊢
  split <;> simp only [L5.mk.injEq] <;> omega
/-- A fit form with a list's coefficients is the one that it tells. -/
theorem told_is {F : List (Int × Int)} {c : Int} (hd : Apart F) (hz : ∀ p ∈ F, p.2 ≠ 0) {l : L5} (hf : Fit l) (hc : l.c = c) (h : ∀ z, cf l z = coef F z) : told F c = (l, true) := by
  have key : ∀ p ∈ F, (p.1 = l.x ∧ p.2 = l.s ∧ l.s ≠ 0) ∨ (p.1 = l.y ∧ p.2 = l.t ∧ l.t ≠ 0) := by
    intro p hp
    have h1 : cf l p.1 = p.2 := (h p.1).trans (coef_mem hd hp)
    rcases cf_ne (by rw [h1]; exact hz p hp) with ⟨e, hs⟩ | ⟨e, ht⟩
    · exact .inl ⟨e, by rw [← h1, e, cf_x hf], hs⟩
    · exact .inr ⟨e, by rw [← h1, e, cf_y hf ht], ht⟩
  have hx : l.s ≠ 0 → ∃ p ∈ F, p.1 = l.x := by
    intro hs
    by_cases hn : ∃ p ∈ F, p.1 = l.x
    · exact hn
    · have := coef_none (L := F) (z := l.x) (fun p hp e => hn ⟨p, hp, e⟩)
      rw [← h, cf_x hf] at this
      exact absurd this hs
  have hy : l.t ≠ 0 → ∃ p ∈ F, p.1 = l.y := by
    intro ht
    by_cases hn : ∃ p ∈ F, p.1 = l.y
    · exact hn
    · have := coef_none (L := F) (z := l.y) (fun p hp e => hn ⟨p, hp, e⟩)
      rw [← h, cf_y hf ht] at this
      exact absurd this ht
  refine told_of hf ?_
  have hfl := hf.2.2
  match F, hd, key, hx, hy with
  | [], _, _, hx, hy =>
    have hs : l.s = 0 := by
      by_cases hs : l.s = 0
      · exact hs
      · obtain ⟨p, hp, _⟩ := hx hs; cases hp
    have e : l = ⟨0, 0, 0, 0, c⟩ := by
      clear hx hy
      cases l; simp only at hs hfl hc ⊢; simp only [L5.mk.injEq]; omega
    rw [e]; rfl
  | [p], _, key, hx, hy =>
    have hp := key p List.mem_cons_self
    have e : l = ⟨p.1, p.2, 0, 0, c⟩ := by
      have h1 : l.t ≠ 0 → p.1 = l.y := fun ht => by
        obtain ⟨q, hq, e⟩ := hy ht
        rw [List.mem_singleton.1 hq] at e; exact e
      have h2 : l.s ≠ 0 → p.1 = l.x := fun ht => by
        obtain ⟨q, hq, e⟩ := hx ht
        rw [List.mem_singleton.1 hq] at e; exact e
      clear hx hy key
      cases l; simp only at hfl hc hp h1 h2 ⊢; simp only [L5.mk.injEq]; omega
    rw [e]; rfl
  | [p, q], hd, key, hx, hy =>
    have hp := key p List.mem_cons_self
    have hq := key q (List.mem_cons_of_mem _ List.mem_cons_self)
    have hne : p.1 ≠ q.1 := (List.pairwise_cons.1 hd).1 q List.mem_cons_self
    rw [two5 hfl hc hp hq hne]; rfl
  | p :: q :: r :: L, hd, key, hx, hy =>
    exfalso
    have hp := key p List.mem_cons_self
    have hq := key q (List.mem_cons_of_mem _ List.mem_cons_self)
    have hr := key r (List.mem_cons_of_mem _ (List.mem_cons_of_mem _ List.mem_cons_self))
    obtain ⟨h1, h2⟩ := List.pairwise_cons.1 hd
    obtain ⟨h3, _⟩ := List.pairwise_cons.1 h2
    have n1 := h1 q List.mem_cons_self
    have n2 := h1 r (List.mem_cons_of_mem _ List.mem_cons_self)
    have n3 := h3 r List.mem_cons_self
    clear hx hy key h1 h2 h3
    omega
/-- What is told hangs on the coefficients alone. -/
theorem told_ext {F G : List (Int × Int)} {c : Int} (hF : Apart F) (hG : Apart G) (zF : ∀ p ∈ F, p.2 ≠ 0) (zG : ∀ p ∈ G, p.2 ≠ 0) (h : ∀ z, coef F z = coef G z) : told F c = told G c := by
  rcases hb : told F c with ⟨l, b⟩
  cases b with
  | true =>
    obtain ⟨h1, h2, h3⟩ := told_says hF hb
    exact (told_is hG zG h1 h2 (fun z => (h3 z).trans (h z))).symm
  | false =>
    rcases hg : told G c with ⟨m, b⟩
    cases b with
    | true =>
      obtain ⟨h1, h2, h3⟩ := told_says hG hg
      rw [told_is hF zF h1 h2 (fun z => (h3 z).trans (h z).symm)] at hb
      cases hb
    | false =>
      rw [← hb, ← hg, told_false (by rw [hb]), told_false (by rw [hg])]
end Go.Proofs.Ytllfopbchdahoaa.M
/- What the law's proof needs of M2. -/
namespace Go.Proofs.Ytllfopbchdahoaa.M
open Go.RowKit
theorem wrap64_in (n : Int) (h : -9223372036854775808 ≤ n ∧ n ≤ 9223372036854775807) : wrap64 n = n := by unfold wrap64; omega
def insP : List (Int × Int) → Int × Int → List (Int × Int)
  | [], p => [p]
  | q :: L, p => if q.1 < p.1 then q :: insP L p else if q.1 = p.1 then (q.1, wrap64 (q.2 + p.2)) :: L else p :: q :: L
def putP : List (Int × Int) → Int × Int → List (Int × Int)
  | [], p => [p]
  | q :: L, p => if q.1 = p.1 then (q.1, wrap64 (q.2 + p.2)) :: L else q :: putP L p
def Bd (n : Int) (L : List (Int × Int)) : Prop := ∀ q ∈ L, -n ≤ q.2 ∧ q.2 ≤ n
theorem Bd.cons {n : Int} {q : Int × Int} {L : List (Int × Int)} (h : Bd n (q :: L)) : (-n ≤ q.2 ∧ q.2 ≤ n) ∧ Bd n L := ⟨h q List.mem_cons_self, fun r hr => h r (List.mem_cons_of_mem _ hr)⟩
theorem Bd.more {n m : Int} {L : List (Int × Int)} (h : Bd n L) (hm : n ≤ m) : Bd m L := fun q hq => by have := h q hq; omega
theorem Bd.mk {n : Int} {q : Int × Int} {L : List (Int × Int)} (h : -n ≤ q.2 ∧ q.2 ≤ n) (hL : Bd n L) : Bd n (q :: L) := fun r hr => by
  rcases List.mem_cons.1 hr with rfl | hr
  · exact h
  · exact hL r hr
theorem bd_nil (n : Int) : Bd n [] := fun _ h => by cases h
theorem ins_bd {n : Int} {p : Int × Int} (hp : -1 ≤ p.2 ∧ p.2 ≤ 1) (hn : 0 ≤ n ∧ n ≤ 10) : ∀ {L : List (Int × Int)}, Bd n L → Bd (n + 1) (insP L p)
  | [], _ => Bd.mk (by omega) (bd_nil _)
  | q :: L, h => by
    obtain ⟨hq, hL⟩ := h.cons
    unfold insP
    split
    · exact Bd.mk (by omega) (ins_bd hp hn hL)
    · split
      · exact Bd.mk (by simp only; rw [wrap64_in _ (by omega)]; omega) (hL.more (by omega))
      · exact Bd.mk (by omega) (h.more (by omega))
theorem put_bd {n : Int} {p : Int × Int} (hp : -1 ≤ p.2 ∧ p.2 ≤ 1) (hn : 0 ≤ n ∧ n ≤ 10) : ∀ {L : List (Int × Int)}, Bd n L → Bd (n + 1) (putP L p)
  | [], _ => Bd.mk (by omega) (bd_nil _)
  | q :: L, h => by
    obtain ⟨hq, hL⟩ := h.cons
    unfold putP
    split
    · exact Bd.mk (by simp only; rw [wrap64_in _ (by omega)]; omega) (hL.more (by omega))
    · exact Bd.mk (by omega) (put_bd hp hn hL)
theorem ins_coef {n : Int} {p : Int × Int} (hp : -1 ≤ p.2 ∧ p.2 ≤ 1) (hn : 0 ≤ n ∧ n ≤ 10) (z : Int) : ∀ {L : List (Int × Int)}, Bd n L → coef (insP L p) z = coef L z + (if p.1 = z then p.2 else 0)
  | [], _ => by simp only [insP, coef]; omega
  | q :: L, h => by
    obtain ⟨hq, hL⟩ := h.cons
    unfold insP
    split
    · simp only [coef, ins_coef hp hn z hL]; omega
    · split
      · rename_i e
        simp only [coef]
        rw [wrap64_in _ (by omega), e]
        by_cases hz : p.1 = z <;> simp only [hz, if_pos, if_neg, not_false_eq_true] <;> omega
      · simp only [coef]; omega
theorem put_coef {n : Int} {p : Int × Int} (hp : -1 ≤ p.2 ∧ p.2 ≤ 1) (hn : 0 ≤ n ∧ n ≤ 10) (z : Int) : ∀ {L : List (Int × Int)}, Bd n L → coef (putP L p) z = coef L z + (if p.1 = z then p.2 else 0)
  | [], _ => by simp only [putP, coef]; omega
  | q :: L, h => by
    obtain ⟨hq, hL⟩ := h.cons
    unfold putP
    split
    · rename_i e
      simp only [coef]
      rw [wrap64_in _ (by omega), e]
      by_cases hz : p.1 = z <;> simp only [hz, if_pos, if_neg, not_false_eq_true] <;> omega
    · simp only [coef, put_coef hp hn z hL]; omega
def Rise (L : List (Int × Int)) : Prop := L.Pairwise (fun p q => p.1 < q.1)
theorem Rise.apart {L : List (Int × Int)} (h : Rise L) : Apart L := List.Pairwise.imp (fun h => by omega) h
theorem ins_mem {p r : Int × Int} : ∀ {L : List (Int × Int)}, r ∈ insP L p → r.1 = p.1 ∨ ∃ q ∈ L, r.1 = q.1
  | [], h => by rw [insP, List.mem_singleton] at h; exact .inl (by rw [h])
  | q :: L, h => by
    unfold insP at h
    split at h
    · rcases List.mem_cons.1 h with rfl | h
      · exact .inr ⟨_, List.mem_cons_self, rfl⟩
      · rcases ins_mem h with h | ⟨q', hq, e⟩
        · exact .inl h
        · exact .inr ⟨q', List.mem_cons_of_mem _ hq, e⟩
    · split at h
      · rename_i e
        rcases List.mem_cons.1 h with rfl | h
        · exact .inl e
        · exact .inr ⟨r, List.mem_cons_of_mem _ h, rfl⟩
      · rcases List.mem_cons.1 h with rfl | h
        · exact .inl rfl
        · exact .inr ⟨r, h, rfl⟩
theorem put_mem {p r : Int × Int} : ∀ {L : List (Int × Int)}, r ∈ putP L p → r.1 = p.1 ∨ ∃ q ∈ L, r.1 = q.1
  | [], h => by rw [putP, List.mem_singleton] at h; exact .inl (by rw [h])
  | q :: L, h => by
    unfold putP at h
    split at h
    · rename_i e
      rcases List.mem_cons.1 h with rfl | h
      · exact .inl e
      · exact .inr ⟨r, List.mem_cons_of_mem _ h, rfl⟩
    · rcases List.mem_cons.1 h with rfl | h
      · exact .inr ⟨_, List.mem_cons_self, rfl⟩
      · rcases put_mem h with h | ⟨q', hq, e⟩
        · exact .inl h
        · exact .inr ⟨q', List.mem_cons_of_mem _ hq, e⟩
theorem ins_rise {p : Int × Int} : ∀ {L : List (Int × Int)}, Rise L → Rise (insP L p)
  | [], _ => List.pairwise_singleton _ _
  | q :: L, h => by
    obtain ⟨h1, h2⟩ := List.pairwise_cons.1 h
    unfold insP
    split
    · rename_i e
      refine List.pairwise_cons.2 ⟨fun r hr => ?_, ins_rise h2⟩
      rcases ins_mem hr with e2 | ⟨q', hq, e2⟩
      · rw [e2]; exact e
      · rw [e2]; exact h1 q' hq
    · split
      · exact List.pairwise_cons.2 ⟨h1, h2⟩
      · refine List.pairwise_cons.2 ⟨fun r hr => ?_, h⟩
        rcases List.mem_cons.1 hr with rfl | hr
        · omega
        · have := h1 r hr; omega
theorem put_apart {p : Int × Int} : ∀ {L : List (Int × Int)}, Apart L → Apart (putP L p)
  | [], _ => List.pairwise_singleton _ _
  | q :: L, h => by
    obtain ⟨h1, h2⟩ := List.pairwise_cons.1 h
    unfold putP
    split
    · exact List.pairwise_cons.2 ⟨h1, h2⟩
    · rename_i e
      refine List.pairwise_cons.2 ⟨fun r hr => ?_, put_apart h2⟩
      rcases put_mem hr with e2 | ⟨q', hq, e2⟩
      · rw [e2]; exact e
      · rw [e2]; exact h1 q' hq
/-- The parts of a form. -/
def parts (l : L5) : List (Int × Int) := (if l.s = 0 then [] else [(l.x, l.s)]) ++ (if l.t = 0 then [] else [(l.y, l.t)])
theorem parts_coef (l : L5) (z : Int) : coef (parts l) z = cf l z := by
  unfold parts cf
  rw [coef_append]
  by_cases h1 : l.s = 0 <;> by_cases h2 : l.t = 0 <;> simp [h1, h2, coef]
theorem parts_rise {l : L5} (h : Fit l) : Rise (parts l) := by
  unfold parts
  obtain ⟨_, _, h⟩ := h
  by_cases h1 : l.s = 0 <;> by_cases h2 : l.t = 0 <;> simp only [h1, h2, if_true, if_false, List.nil_append, List.append_nil, List.cons_append]
  · exact List.Pairwise.nil
  · exact List.pairwise_singleton _ _
  · exact List.pairwise_singleton _ _
  · refine List.pairwise_cons.2 ⟨fun r hr => ?_, List.pairwise_singleton _ _⟩
    rw [List.mem_singleton] at hr
    rw [hr]
    simp only
    omega
theorem parts_small {l : L5} (h : Fit l) : ∀ p ∈ parts l, -1 ≤ p.2 ∧ p.2 ≤ 1 := by
  unfold parts
  obtain ⟨_, _, h⟩ := h
  intro p hp
  rcases List.mem_append.1 hp with hp | hp
  · split at hp
    · cases hp
    · rw [List.mem_singleton] at hp
      rw [hp]; simp only; omega
  · split at hp
    · cases hp
    · rw [List.mem_singleton] at hp
      rw [hp]; simp only; omega
theorem parts_length (l : L5) : (parts l).length ≤ 2 := by
  unfold parts
  rw [List.length_append]
  split <;> split <;> simp
def insAll (L P : List (Int × Int)) : List (Int × Int) := P.foldl insP L
def putAll (L P : List (Int × Int)) : List (Int × Int) := P.foldl putP L
theorem insAll_all : ∀ {P L : List (Int × Int)} {n : Int}, (∀ p ∈ P, -1 ≤ p.2 ∧ p.2 ≤ 1) → 0 ≤ n → n + P.length ≤ 10 → Bd n L → Rise L → Rise (insAll L P) ∧ Bd (n + P.length) (insAll L P) ∧ ∀ z, coef (insAll L P) z = coef L z + coef P z
  | [], L, n, _, _, _, hb, hr => ⟨hr, hb.more (by simp), fun z => by simp [insAll, coef]⟩
  | p :: P, L, n, hs, h0, hn, hb, hr => by
    have hp := hs p List.mem_cons_self
    simp only [List.length_cons, Int.natCast_add, Int.natCast_one] at hn ⊢
    obtain ⟨h1, h2, h3⟩ := insAll_all (P := P) (L := insP L p) (n := n + 1) (fun q hq => hs q (List.mem_cons_of_mem _ hq)) (by omega) (by omega) (ins_bd hp (by omega) hb) (ins_rise hr)
    refine ⟨h1, h2.more (by omega), fun z => ?_⟩
    have := h3 z
    simp only [insAll, List.foldl_cons, coef] at this ⊢
    rw [this, ins_coef hp (n := n) (by omega) z hb]
    omega
theorem putAll_all : ∀ {P L : List (Int × Int)} {n : Int}, (∀ p ∈ P, -1 ≤ p.2 ∧ p.2 ≤ 1) → 0 ≤ n → n + P.length ≤ 10 → Bd n L → Apart L → Apart (putAll L P) ∧ Bd (n + P.length) (putAll L P) ∧ ∀ z, coef (putAll L P) z = coef L z + coef P z
  | [], L, n, _, _, _, hb, hr => ⟨hr, hb.more (by simp), fun z => by simp [putAll, coef]⟩
  | p :: P, L, n, hs, h0, hn, hb, hr => by
    have hp := hs p List.mem_cons_self
    simp only [List.length_cons, Int.natCast_add, Int.natCast_one] at hn ⊢
    obtain ⟨h1, h2, h3⟩ := putAll_all (P := P) (L := putP L p) (n := n + 1) (fun q hq => hs q (List.mem_cons_of_mem _ hq)) (by omega) (by omega) (put_bd hp (by omega) hb) (put_apart hr)
    refine ⟨h1, h2.more (by omega), fun z => ?_⟩
    have := h3 z
    simp only [putAll, List.foldl_cons, coef] at this ⊢
    rw [this, put_coef hp (n := n) (by omega) z hb]
    omega
def nz (L : List (Int × Int)) : List (Int × Int) := L.filter (fun p => decide (p.2 ≠ 0))
theorem nz_ne {L : List (Int × Int)} : ∀ p ∈ nz L, p.2 ≠ 0 := fun _ hp => of_decide_eq_true (List.mem_filter.1 hp).2
/-- The sum of two forms. -/
def add5 (a b : L5) : L5 × Bool := if Fit a ∧ Fit b then told (nz (putAll (parts a) (parts b))) (a.c + b.c) else (zero5, false)
theorem put_of {a b : L5} (ha : Fit a) (hb : Fit b) : Apart (nz (putAll (parts a) (parts b))) ∧ ∀ z, coef (nz (putAll (parts a) (parts b))) z = cf a z + cf b z := by
  obtain ⟨h1, _, h3⟩ := putAll_all (P := parts b) (L := parts a) (n := 1) (parts_small hb) (by omega) (by have := parts_length b; omega) (parts_small ha) (parts_rise ha).apart
  exact ⟨apart_filter h1 _, fun z => by unfold nz; rw [coef_filter, h3, parts_coef, parts_coef]⟩
theorem ins_of {a b : L5} (ha : Fit a) (hb : Fit b) : Rise (nz (insAll (insAll [] (parts a)) (parts b))) ∧ ∀ z, coef (nz (insAll (insAll [] (parts a)) (parts b))) z = cf a z + cf b z := by
  obtain ⟨h1, h2, h3⟩ := insAll_all (P := parts a) (L := []) (n := 0) (parts_small ha) (by omega) (by have := parts_length a; omega) (bd_nil _) List.Pairwise.nil
  obtain ⟨g1, _, g3⟩ := insAll_all (P := parts b) (L := insAll [] (parts a)) (n := 0 + (parts a).length) (parts_small hb) (by omega) (by have := parts_length a; have := parts_length b; omega) h2 h1
  exact ⟨List.Pairwise.filter _ g1, fun z => by unfold nz; rw [coef_filter, g3, h3, parts_coef, parts_coef]; simp [coef]⟩
theorem ins_told {a b : L5} (ha : Fit a) (hb : Fit b) (c : Int) : told (nz (insAll (insAll [] (parts a)) (parts b))) c = told (nz (putAll (parts a) (parts b))) c :=
  told_ext (ins_of ha hb).1.apart (put_of ha hb).1 nz_ne nz_ne (fun z => ((ins_of ha hb).2 z).trans ((put_of ha hb).2 z).symm)
def neg5 (a : L5) : L5 := ⟨a.x, -a.s, a.y, -a.t, -a.c⟩
end Go.Proofs.Ytllfopbchdahoaa.M
