/- What the law's proof needs of M2. -/
import Derived.Test.YtllfopbchdahoaaTrLM1
namespace Go.Proofs.Ytllfopbchdahoaa.M
open Go.RowKit
theorem wrap64_in (n : Int) (h : -9223372036854775808 ≤ n ∧ n ≤ 9223372036854775807) : wrap64 n = n := by unfold wrap64; omega
def insP : List (Int × Int) → Int × Int → List (Int × Int)
  | [], p => [p]
  | q :: L, p => if q.1 < p.1 then q :: insP L p else if q.1 = p.1 then (q.1, wrap64 (q.2 + p.2)) :: L else p :: q :: L
def putP : List (Int × Int) → Int × Int → List (Int × Int)
  | [], p => [p]
  | q :: L, p => if q.1 = p.1 then (q.1, wrap64 (q.2 + p.2)) :: L else q :: putP L p
def Bd (n : Int) (L : List (Int × Int)) : Prop := ∀ q ∈ L, -n ≤ q.2 ∧ q.2 ≤ n
theorem Bd.cons {n : Int} {q : Int × Int} {L : List (Int × Int)} (h : Bd n (q :: L)) : (-n ≤ q.2 ∧ q.2 ≤ n) ∧ Bd n L := ⟨h q List.mem_cons_self, fun r hr => h r (List.mem_cons_of_mem _ hr)⟩
theorem Bd.more {n m : Int} {L : List (Int × Int)} (h : Bd n L) (hm : n ≤ m) : Bd m L := fun q hq => by have := h q hq; omega
theorem Bd.mk {n : Int} {q : Int × Int} {L : List (Int × Int)} (h : -n ≤ q.2 ∧ q.2 ≤ n) (hL : Bd n L) : Bd n (q :: L) := fun r hr => by
  rcases List.mem_cons.1 hr with rfl | hr
  · exact h
  · exact hL r hr
theorem bd_nil (n : Int) : Bd n [] := fun _ h => by cases h
theorem ins_bd {n : Int} {p : Int × Int} (hp : -1 ≤ p.2 ∧ p.2 ≤ 1) (hn : 0 ≤ n ∧ n ≤ 10) : ∀ {L : List (Int × Int)}, Bd n L → Bd (n + 1) (insP L p)
  | [], _ => Bd.mk (by omega) (bd_nil _)
  | q :: L, h => by
    obtain ⟨hq, hL⟩ := h.cons
    unfold insP
    split
    · exact Bd.mk (by omega) (ins_bd hp hn hL)
    · split
      · exact Bd.mk (by simp only; rw [wrap64_in _ (by omega)]; omega) (hL.more (by omega))
      · exact Bd.mk (by omega) (h.more (by omega))
theorem put_bd {n : Int} {p : Int × Int} (hp : -1 ≤ p.2 ∧ p.2 ≤ 1) (hn : 0 ≤ n ∧ n ≤ 10) : ∀ {L : List (Int × Int)}, Bd n L → Bd (n + 1) (putP L p)
  | [], _ => Bd.mk (by omega) (bd_nil _)
  | q :: L, h => by
    obtain ⟨hq, hL⟩ := h.cons
    unfold putP
    split
    · exact Bd.mk (by simp only; rw [wrap64_in _ (by omega)]; omega) (hL.more (by omega))
    · exact Bd.mk (by omega) (put_bd hp hn hL)
theorem ins_coef {n : Int} {p : Int × Int} (hp : -1 ≤ p.2 ∧ p.2 ≤ 1) (hn : 0 ≤ n ∧ n ≤ 10) (z : Int) : ∀ {L : List (Int × Int)}, Bd n L → coef (insP L p) z = coef L z + (if p.1 = z then p.2 else 0)
  | [], _ => by simp only [insP, coef]; omega
  | q :: L, h => by
    obtain ⟨hq, hL⟩ := h.cons
    unfold insP
    split
    · simp only [coef, ins_coef hp hn z hL]; omega
    · split
      · rename_i e
        simp only [coef]
        rw [wrap64_in _ (by omega), e]
        by_cases hz : p.1 = z <;> simp only [hz, if_pos, if_neg, not_false_eq_true] <;> omega
      · simp only [coef]; omega
theorem put_coef {n : Int} {p : Int × Int} (hp : -1 ≤ p.2 ∧ p.2 ≤ 1) (hn : 0 ≤ n ∧ n ≤ 10) (z : Int) : ∀ {L : List (Int × Int)}, Bd n L → coef (putP L p) z = coef L z + (if p.1 = z then p.2 else 0)
  | [], _ => by simp only [putP, coef]; omega
  | q :: L, h => by
    obtain ⟨hq, hL⟩ := h.cons
    unfold putP
    split
    · rename_i e
      simp only [coef]
      rw [wrap64_in _ (by omega), e]
      by_cases hz : p.1 = z <;> simp only [hz, if_pos, if_neg, not_false_eq_true] <;> omega
    · simp only [coef, put_coef hp hn z hL]; omega
def Rise (L : List (Int × Int)) : Prop := L.Pairwise (fun p q => p.1 < q.1)
theorem Rise.apart {L : List (Int × Int)} (h : Rise L) : Apart L := List.Pairwise.imp (fun h => by omega) h
theorem ins_mem {p r : Int × Int} : ∀ {L : List (Int × Int)}, r ∈ insP L p → r.1 = p.1 ∨ ∃ q ∈ L, r.1 = q.1
  | [], h => by rw [insP, List.mem_singleton] at h; exact .inl (by rw [h])
  | q :: L, h => by
    unfold insP at h
    split at h
    · rcases List.mem_cons.1 h with rfl | h
      · exact .inr ⟨_, List.mem_cons_self, rfl⟩
      · rcases ins_mem h with h | ⟨q', hq, e⟩
        · exact .inl h
        · exact .inr ⟨q', List.mem_cons_of_mem _ hq, e⟩
    · split at h
      · rename_i e
        rcases List.mem_cons.1 h with rfl | h
        · exact .inl e
        · exact .inr ⟨r, List.mem_cons_of_mem _ h, rfl⟩
      · rcases List.mem_cons.1 h with rfl | h
        · exact .inl rfl
        · exact .inr ⟨r, h, rfl⟩
theorem put_mem {p r : Int × Int} : ∀ {L : List (Int × Int)}, r ∈ putP L p → r.1 = p.1 ∨ ∃ q ∈ L, r.1 = q.1
  | [], h => by rw [putP, List.mem_singleton] at h; exact .inl (by rw [h])
  | q :: L, h => by
    unfold putP at h
    split at h
    · rename_i e
      rcases List.mem_cons.1 h with rfl | h
      · exact .inl e
      · exact .inr ⟨r, List.mem_cons_of_mem _ h, rfl⟩
    · rcases List.mem_cons.1 h with rfl | h
      · exact .inr ⟨_, List.mem_cons_self, rfl⟩
      · rcases put_mem h with h | ⟨q', hq, e⟩
        · exact .inl h
        · exact .inr ⟨q', List.mem_cons_of_mem _ hq, e⟩
theorem ins_rise {p : Int × Int} : ∀ {L : List (Int × Int)}, Rise L → Rise (insP L p)
  | [], _ => List.pairwise_singleton _ _
  | q :: L, h => by
    obtain ⟨h1, h2⟩ := List.pairwise_cons.1 h
    unfold insP
    split
    · rename_i e
      refine List.pairwise_cons.2 ⟨fun r hr => ?_, ins_rise h2⟩
      rcases ins_mem hr with e2 | ⟨q', hq, e2⟩
      · rw [e2]; exact e
      · rw [e2]; exact h1 q' hq
    · split
      · exact List.pairwise_cons.2 ⟨h1, h2⟩
      · refine List.pairwise_cons.2 ⟨fun r hr => ?_, h⟩
        rcases List.mem_cons.1 hr with rfl | hr
        · omega
        · have := h1 r hr; omega
theorem put_apart {p : Int × Int} : ∀ {L : List (Int × Int)}, Apart L → Apart (putP L p)
  | [], _ => List.pairwise_singleton _ _
  | q :: L, h => by
    obtain ⟨h1, h2⟩ := List.pairwise_cons.1 h
    unfold putP
    split
    · exact List.pairwise_cons.2 ⟨h1, h2⟩
    · rename_i e
      refine List.pairwise_cons.2 ⟨fun r hr => ?_, put_apart h2⟩
      rcases put_mem hr with e2 | ⟨q', hq, e2⟩
      · rw [e2]; exact e
      · rw [e2]; exact h1 q' hq
/-- The parts of a form. -/
def parts (l : L5) : List (Int × Int) := (if l.s = 0 then [] else [(l.x, l.s)]) ++ (if l.t = 0 then [] else [(l.y, l.t)])
theorem parts_coef (l : L5) (z : Int) : coef (parts l) z = cf l z := by
  unfold parts cf
  rw [coef_append]
  by_cases h1 : l.s = 0 <;> by_cases h2 : l.t = 0 <;> simp [h1, h2, coef]
theorem parts_rise {l : L5} (h : Fit l) : Rise (parts l) := by
  unfold parts
  obtain ⟨_, _, h⟩ := h
  by_cases h1 : l.s = 0 <;> by_cases h2 : l.t = 0 <;> simp only [h1, h2, if_true, if_false, List.nil_append, List.append_nil, List.cons_append]
  · exact List.Pairwise.nil
  · exact List.pairwise_singleton _ _
  · exact List.pairwise_singleton _ _
  · refine List.pairwise_cons.2 ⟨fun r hr => ?_, List.pairwise_singleton _ _⟩
    rw [List.mem_singleton] at hr
    rw [hr]
    simp only
    omega
theorem parts_small {l : L5} (h : Fit l) : ∀ p ∈ parts l, -1 ≤ p.2 ∧ p.2 ≤ 1 := by
  unfold parts
  obtain ⟨_, _, h⟩ := h
  intro p hp
  rcases List.mem_append.1 hp with hp | hp
  · split at hp
    · cases hp
    · rw [List.mem_singleton] at hp
      rw [hp]; simp only; omega
  · split at hp
    · cases hp
    · rw [List.mem_singleton] at hp
      rw [hp]; simp only; omega
theorem parts_length (l : L5) : (parts l).length ≤ 2 := by
  unfold parts
  rw [List.length_append]
  split <;> split <;> simp
def insAll (L P : List (Int × Int)) : List (Int × Int) := P.foldl insP L
def putAll (L P : List (Int × Int)) : List (Int × Int) := P.foldl putP L
theorem insAll_all : ∀ {P L : List (Int × Int)} {n : Int}, (∀ p ∈ P, -1 ≤ p.2 ∧ p.2 ≤ 1) → 0 ≤ n → n + P.length ≤ 10 → Bd n L → Rise L → Rise (insAll L P) ∧ Bd (n + P.length) (insAll L P) ∧ ∀ z, coef (insAll L P) z = coef L z + coef P z
  | [], L, n, _, _, _, hb, hr => ⟨hr, hb.more (by simp), fun z => by simp [insAll, coef]⟩
  | p :: P, L, n, hs, h0, hn, hb, hr => by
    have hp := hs p List.mem_cons_self
    simp only [List.length_cons, Int.natCast_add, Int.natCast_one] at hn ⊢
    obtain ⟨h1, h2, h3⟩ := insAll_all (P := P) (L := insP L p) (n := n + 1) (fun q hq => hs q (List.mem_cons_of_mem _ hq)) (by omega) (by omega) (ins_bd hp (by omega) hb) (ins_rise hr)
    refine ⟨h1, h2.more (by omega), fun z => ?_⟩
    have := h3 z
    simp only [insAll, List.foldl_cons, coef] at this ⊢
    rw [this, ins_coef hp (n := n) (by omega) z hb]
    omega
theorem putAll_all : ∀ {P L : List (Int × Int)} {n : Int}, (∀ p ∈ P, -1 ≤ p.2 ∧ p.2 ≤ 1) → 0 ≤ n → n + P.length ≤ 10 → Bd n L → Apart L → Apart (putAll L P) ∧ Bd (n + P.length) (putAll L P) ∧ ∀ z, coef (putAll L P) z = coef L z + coef P z
  | [], L, n, _, _, _, hb, hr => ⟨hr, hb.more (by simp), fun z => by simp [putAll, coef]⟩
  | p :: P, L, n, hs, h0, hn, hb, hr => by
    have hp := hs p List.mem_cons_self
    simp only [List.length_cons, Int.natCast_add, Int.natCast_one] at hn ⊢
    obtain ⟨h1, h2, h3⟩ := putAll_all (P := P) (L := putP L p) (n := n + 1) (fun q hq => hs q (List.mem_cons_of_mem _ hq)) (by omega) (by omega) (put_bd hp (by omega) hb) (put_apart hr)
    refine ⟨h1, h2.more (by omega), fun z => ?_⟩
    have := h3 z
    simp only [putAll, List.foldl_cons, coef] at this ⊢
    rw [this, put_coef hp (n := n) (by omega) z hb]
    omega
def nz (L : List (Int × Int)) : List (Int × Int) := L.filter (fun p => decide (p.2 ≠ 0))
theorem nz_ne {L : List (Int × Int)} : ∀ p ∈ nz L, p.2 ≠ 0 := fun _ hp => of_decide_eq_true (List.mem_filter.1 hp).2
/-- The sum of two forms. -/
def add5 (a b : L5) : L5 × Bool := if Fit a ∧ Fit b then told (nz (putAll (parts a) (parts b))) (a.c + b.c) else (zero5, false)
theorem put_of {a b : L5} (ha : Fit a) (hb : Fit b) : Apart (nz (putAll (parts a) (parts b))) ∧ ∀ z, coef (nz (putAll (parts a) (parts b))) z = cf a z + cf b z := by
  obtain ⟨h1, _, h3⟩ := putAll_all (P := parts b) (L := parts a) (n := 1) (parts_small hb) (by omega) (by have := parts_length b; omega) (parts_small ha) (parts_rise ha).apart
  exact ⟨apart_filter h1 _, fun z => by unfold nz; rw [coef_filter, h3, parts_coef, parts_coef]⟩
theorem ins_of {a b : L5} (ha : Fit a) (hb : Fit b) : Rise (nz (insAll (insAll [] (parts a)) (parts b))) ∧ ∀ z, coef (nz (insAll (insAll [] (parts a)) (parts b))) z = cf a z + cf b z := by
  obtain ⟨h1, h2, h3⟩ := insAll_all (P := parts a) (L := []) (n := 0) (parts_small ha) (by omega) (by have := parts_length a; omega) (bd_nil _) List.Pairwise.nil
  obtain ⟨g1, _, g3⟩ := insAll_all (P := parts b) (L := insAll [] (parts a)) (n := 0 + (parts a).length) (parts_small hb) (by omega) (by have := parts_length a; have := parts_length b; omega) h2 h1
  exact ⟨List.Pairwise.filter _ g1, fun z => by unfold nz; rw [coef_filter, g3, h3, parts_coef, parts_coef]; simp [coef]⟩
theorem ins_told {a b : L5} (ha : Fit a) (hb : Fit b) (c : Int) : told (nz (insAll (insAll [] (parts a)) (parts b))) c = told (nz (putAll (parts a) (parts b))) c :=
  told_ext (ins_of ha hb).1.apart (put_of ha hb).1 nz_ne nz_ne (fun z => ((ins_of ha hb).2 z).trans ((put_of ha hb).2 z).symm)
theorem add5_says {a b l : L5} (h : add5 a b = (l, true)) : Fit a ∧ Fit b ∧ Fit l ∧ l.c = a.c + b.c ∧ ∀ z, cf l z = cf a z + cf b z := by
  unfold add5 at h
  split at h
  · rename_i hf
    obtain ⟨h1, h2, h3⟩ := told_says (put_of hf.1 hf.2).1 h
    exact ⟨hf.1, hf.2, h1, h2, fun z => (h3 z).trans ((put_of hf.1 hf.2).2 z)⟩
  · cases h
theorem add5_is {a b l : L5} (ha : Fit a) (hb : Fit b) (hl : Fit l) (hc : l.c = a.c + b.c) (h : ∀ z, cf l z = cf a z + cf b z) : add5 a b = (l, true) := by
  unfold add5
  rw [if_pos ⟨ha, hb⟩]
  exact told_is (put_of ha hb).1 nz_ne hl hc (fun z => (h z).trans ((put_of ha hb).2 z).symm)
theorem add5_false {a b : L5} (h : (add5 a b).2 = false) : add5 a b = (zero5, false) := by
  unfold add5 at h ⊢
  split at h
  · rename_i hf
    rw [if_pos hf]
    exact told_false h
  · rename_i hf
    rw [if_neg hf]
theorem add5_comm (a b : L5) : add5 a b = add5 b a := by
  rcases hb : add5 a b with ⟨l, t⟩
  cases t with
  | true =>
    obtain ⟨h1, h2, h3, h4, h5⟩ := add5_says hb
    exact (add5_is h2 h1 h3 (by omega) (fun z => by rw [h5]; omega)).symm
  | false =>
    rcases hg : add5 b a with ⟨m, t⟩
    cases t with
    | true =>
      obtain ⟨h1, h2, h3, h4, h5⟩ := add5_says hg
      rw [add5_is h2 h1 h3 (by omega) (fun z => by rw [h5]; omega)] at hb
      cases hb
    | false => rw [← hb, ← hg, add5_false (by rw [hb]), add5_false (by rw [hg])]
def neg5 (a : L5) : L5 := ⟨a.x, -a.s, a.y, -a.t, -a.c⟩
theorem neg5_fit {a : L5} (h : Fit a) : Fit (neg5 a) := by
  unfold Fit neg5 at *
  simp only
  omega
theorem neg5_neg (a : L5) : neg5 (neg5 a) = a := by
  cases a; simp [neg5]
end Go.Proofs.Ytllfopbchdahoaa.M
