/- What the law's proof needs of M7. -/
import Derived.Laws.Strings
import Derived.Test.YtiemdfdebdmchaaTrSM4
import Derived.Test.YtiemdfdebdmchaaTrSM6
namespace Go.Proofs.Ytiemdfdebdmchaa.M
open Go.RowKit Go.Proofs.Ytiemdfdebdmchaa.P Go.Proofs.YtiemdfdebdmchaaW.PrintWords Go.Proofs.YtiemdfdebdmchaaW.PrintLast Go.Proofs.YtiemdfdebdmchaaW.PrintMore
def In64 (x : Int) : Prop := -9223372036854775808 ≤ x ∧ x < 9223372036854775808
def Nat63 (x : Int) : Prop := 0 ≤ x ∧ x < 9223372036854775808
def Row (l : List Int) : Prop := (∀ x ∈ l, In64 x) ∧ l.length < 9223372036854775808
def Rws (l : List (List Int)) : Prop := (∀ x ∈ l, Row x) ∧ l.length < 9223372036854775808
theorem sgn_in (a : Int) (h : In64 a) : 0 ≤ sgn a ∧ sgn a < 18446744073709551616 := by
  rcases Int.lt_or_le a 0 with h0 | h0
  · rw [sgn_neg a h.1 h0]; have := h.1; omega
  · rw [sgn_nonneg a h0 h.2]; have := h.2; omega
theorem unsgn_sgn (a : Int) (h : In64 a) : unsgn (sgn a) = a := by
  unfold unsgn
  rcases Int.lt_or_le a 0 with h0 | h0
  · rw [sgn_neg a h.1 h0, if_neg (by omega)]; omega
  · rw [sgn_nonneg a h0 h.2, if_pos (by omega)]; omega
theorem sgn_unsgn (x : Int) (h0 : 0 ≤ x) (h1 : x < 18446744073709551616) : sgn (unsgn x) = x := by
  unfold unsgn
  split
  · rw [sgn_nonneg _ (by omega) (by omega)]; omega
  · rw [sgn_neg _ (by omega) (by omega)]; omega
theorem numb_ne (n : Nat) (x : Int) : 1 ≤ (numb n x).length := by
  cases n with
  | zero => simp [numb]
  | succ n => rw [numb]; split <;> simp
/-- p reads just what e writes (of what is V). -/
structure Reads {α : Type} (p : List Int → Option (α × List Int)) (e : α → List Int) (V : α → Prop) : Prop where
  sound : ∀ {s v r}, Bytes s → p s = some (v, r) → s = e v ++ r ∧ V v
  back : ∀ v r, V v → p (e v ++ r) = some (v, r)
theorem bytes_right {a b s : List Int} (h : Bytes s) (e : s = a ++ b) : Bytes b := fun x hx => h x (by rw [e]; exact List.mem_append_right _ hx)
theorem Reads.pSeq {α β : Type} {p : List Int → Option (α × List Int)} {e : α → List Int} {V : α → Prop} {q : α → List Int → Option (β × List Int)} {e' : α → β → List Int} {V' : β → Prop} (hp : Reads p e V) (hq : ∀ v, V v → Reads (q v) (e' v) V') :
    Reads (pSeq p q) (fun x => e x.1 ++ e' x.1 x.2) (fun x => V x.1 ∧ V' x.2) where
  sound := by
    intro s v r hb h
    unfold M.pSeq at h
    cases h1 : p s with
    | none => rw [h1] at h; cases h
    | some x =>
      obtain ⟨x, s1⟩ := x
      rw [h1] at h
      simp only at h
      obtain ⟨e1, v1⟩ := hp.sound hb h1
      cases h2 : q x s1 with
      | none => rw [h2] at h; cases h
      | some y =>
        obtain ⟨y, s2⟩ := y
        rw [h2] at h
        obtain ⟨e2, v2⟩ := (hq x v1).sound (bytes_right hb e1) h2
        injection h with h; injection h with h3 h4
        subst h3; subst h4
        exact ⟨by rw [e1, e2, List.append_assoc], v1, v2⟩
  back := by
    intro v r h
    unfold M.pSeq
    rw [List.append_assoc, hp.back v.1 _ h.1]
    simp only
    rw [(hq v.1 h.1).back v.2 _ h.2]
theorem reads_ps : Reads ps (fun a => numb 9 (sgn a)) In64 where
  sound := by
    intro s v r hb h
    unfold ps at h
    cases h1 : pn s with
    | none => rw [h1] at h; cases h
    | some x =>
      rw [h1] at h
      injection h with h; injection h with h2 h3
      obtain ⟨e1, e2, e3⟩ := pn_sound hb h1
      rw [← h2, ← h3]
      exact ⟨by rw [sgn_unsgn _ e2 e3]; exact e1, unsgn_in _ e2 e3⟩
  back := by
    intro v r h
    unfold ps
    have h2 := sgn_in v h
    rw [pn_back _ r h2.1 h2.2]
    simp only
    rw [unsgn_sgn v h]
theorem reads_pp : Reads pp (fun a => numb 9 a) Nat63 where
  sound := by
    intro s v r hb h
    unfold pp at h
    cases h1 : pn s with
    | none => rw [h1] at h; cases h
    | some x =>
      obtain ⟨x, s1⟩ := x
      rw [h1] at h
      simp only at h
      obtain ⟨e1, e2, e3⟩ := pn_sound hb h1
      split at h
      · cases h
      · injection h with h; injection h with h2 h3
        subst h2; subst h3
        exact ⟨e1, e2, by omega⟩
  back := by
    intro v r h
    unfold pp
    rw [pn_back _ r h.1 (by have := h.2; omega)]
    simp only
    rw [if_neg (by have := h.2; omega)]
def encR (f : List Int → Int) : List Int → List Int → List Int
  | _, [] => []
  | l, x :: xs => numb 9 (sgn (wrap64 (x - f l))) ++ encR f (l ++ [x]) xs
def eR (f : List Int → Int) (l : List Int) : List Int := numb 9 (l.length : Int) ++ encR f [] l
theorem wrap64_in64 (x : Int) : In64 (wrap64 x) := by unfold In64 wrap64; omega
theorem encR_len (f : List Int → Int) : ∀ l xs, xs.length ≤ (encR f l xs).length
  | _, [] => Nat.le_refl _
  | l, x :: xs => by
    have h1 := numb_ne 9 (sgn (wrap64 (x - f l)))
    have h2 := encR_len f (l ++ [x]) xs
    rw [encR, List.length_append, List.length_cons]
    omega
theorem rowP_sound (f : List Int → Int) : ∀ (n : Nat) (l s l' r : List Int), Bytes s → rowP f n l s = some (l', r) → ∃ xs, l' = l ++ xs ∧ xs.length = n ∧ s = encR f l xs ++ r ∧ ∀ x ∈ xs, In64 x
  | 0, l, s, l', r, _, h => by
    rw [rowP] at h
    injection h with h; injection h with h1 h2
    exact ⟨[], by rw [List.append_nil, h1], rfl, by rw [h2]; rfl, fun x hx => by cases hx⟩
  | n + 1, l, s, l', r, hb, h => by
    rw [rowP] at h
    cases h1 : ps s with
    | none => rw [h1] at h; cases h
    | some x =>
      obtain ⟨x, s1⟩ := x
      rw [h1] at h
      simp only at h
      obtain ⟨e1, v1⟩ := reads_ps.sound hb h1
      obtain ⟨xs, e2, e3, e4, e5⟩ := rowP_sound f n _ s1 l' r (bytes_right hb e1) h
      refine ⟨wrap64 (x + f l) :: xs, by rw [e2, List.append_assoc]; rfl, by rw [List.length_cons, e3], ?_, fun y hy => ?_⟩
      · rw [encR, show wrap64 (wrap64 (x + f l) - f l) = x by have := v1.1; have := v1.2; unfold wrap64; omega, List.append_assoc, ← e4]
        exact e1
      · rcases List.mem_cons.1 hy with h | h
        · rw [h]; exact wrap64_in64 _
        · exact e5 y h
theorem rowP_back (f : List Int → Int) : ∀ (xs l r : List Int), (∀ x ∈ xs, In64 x) → rowP f xs.length l (encR f l xs ++ r) = some (l ++ xs, r)
  | [], l, r, _ => by rw [List.length_nil, rowP, encR, List.append_nil]; rfl
  | x :: xs, l, r, h => by
    have hx := h x List.mem_cons_self
    rw [List.length_cons, rowP, encR, List.append_assoc, reads_ps.back _ _ (wrap64_in64 _)]
    simp only
    rw [show wrap64 (wrap64 (x - f l) + f l) = x by have := hx.1; have := hx.2; unfold wrap64; omega, rowP_back f xs (l ++ [x]) r (fun y hy => h y (List.mem_cons_of_mem _ hy)), List.append_assoc]
    rfl
theorem pm_sound {s : List Int} {x : Int} {r : List Int} (hb : Bytes s) (h : pm s = some (x, r)) : s = numb 9 x ++ r ∧ 0 ≤ x ∧ x ≤ (r.length : Int) ∧ x < 18446744073709551616 := by
  unfold pm at h
  cases h1 : pn s with
  | none => rw [h1] at h; cases h
  | some y =>
    obtain ⟨y, s1⟩ := y
    rw [h1] at h
    simp only at h
    obtain ⟨e1, e2, e3⟩ := pn_sound hb h1
    split at h
    · cases h
    · injection h with h; injection h with h2 h3
      subst h2; subst h3
      exact ⟨e1, e2, by omega, e3⟩
theorem pm_back (x : Nat) (r : List Int) (h : x ≤ r.length) (h1 : x < 9223372036854775808) : pm (numb 9 (x : Int) ++ r) = some ((x : Int), r) := by
  unfold pm
  rw [pn_back _ r (by omega) (by omega)]
  simp only
  rw [if_neg (by omega)]
/-- A stretch of bytes is shorter than any int. -/
def Short (s : List Int) : Prop := s.length < 9223372036854775808
theorem pr_sound (f : List Int → Int) {s l r : List Int} (hb : Bytes s) (hs : Short s) (h : pr f s = some (l, r)) : s = eR f l ++ r ∧ Row l := by
  unfold pr at h
  cases h1 : pm s with
  | none => rw [h1] at h; cases h
  | some x =>
    obtain ⟨x, s1⟩ := x
    rw [h1] at h
    simp only at h
    obtain ⟨e1, e2, e3, e4⟩ := pm_sound hb h1
    obtain ⟨xs, q1, q2, q3, q4⟩ := rowP_sound f _ _ _ _ _ (bytes_right hb e1) h
    rw [List.nil_append] at q1
    subst q1
    have hl : (l.length : Int) = x := by omega
    have hlen := congrArg List.length e1
    rw [List.length_append] at hlen
    unfold Short at hs
    refine ⟨?_, q4, by omega⟩
    unfold eR
    rw [hl, List.append_assoc, ← q3]
    exact e1
theorem pr_back (f : List Int → Int) (l r : List Int) (h : Row l) : pr f (eR f l ++ r) = some (l, r) := by
  unfold pr eR
  have hl := encR_len f [] l
  rw [List.append_assoc, pm_back l.length _ (by rw [List.length_append]; omega) h.2]
  simp only
  rw [Int.toNat_natCast, rowP_back f l [] r h.1]
  rfl
def encA : List (List Int) → List Int
  | [] => []
  | x :: xs => eR lastOf x ++ encA xs
def encM : List Int → List (List Int) → List Int
  | _, [] => []
  | o, x :: xs => eR (befOf o) x ++ encM x xs
theorem eR_ne (f : List Int → Int) (l : List Int) : 1 ≤ (eR f l).length := by
  have := numb_ne 9 (l.length : Int)
  unfold eR
  rw [List.length_append]
  omega
theorem encA_len : ∀ xs, xs.length ≤ (encA xs).length
  | [] => Nat.le_refl _
  | x :: xs => by
    have h1 := eR_ne lastOf x
    have h2 := encA_len xs
    rw [encA, List.length_append, List.length_cons]
    omega
theorem encM_len : ∀ o xs, xs.length ≤ (encM o xs).length
  | _, [] => Nat.le_refl _
  | o, x :: xs => by
    have h1 := eR_ne (befOf o) x
    have h2 := encM_len x xs
    rw [encM, List.length_append, List.length_cons]
    omega
theorem short_right {a b s : List Int} (h : Short s) (e : s = a ++ b) : Short b := by
  have := congrArg List.length e
  rw [List.length_append] at this
  unfold Short at *
  omega
theorem arrP_sound : ∀ (n : Nat) (l : List (List Int)) (s : List Int) (l' : List (List Int)) (r : List Int), Bytes s → Short s → arrP n l s = some (l', r) → ∃ xs, l' = l ++ xs ∧ xs.length = n ∧ s = encA xs ++ r ∧ ∀ x ∈ xs, Row x
  | 0, l, s, l', r, _, _, h => by
    rw [arrP] at h
    injection h with h; injection h with h1 h2
    exact ⟨[], by rw [List.append_nil, h1], rfl, by rw [h2]; rfl, fun x hx => by cases hx⟩
  | n + 1, l, s, l', r, hb, hs, h => by
    rw [arrP] at h
    cases h1 : pr lastOf s with
    | none => rw [h1] at h; cases h
    | some x =>
      obtain ⟨x, s1⟩ := x
      rw [h1] at h
      simp only at h
      obtain ⟨e1, v1⟩ := pr_sound lastOf hb hs h1
      obtain ⟨xs, e2, e3, e4, e5⟩ := arrP_sound n _ s1 l' r (bytes_right hb e1) (short_right hs e1) h
      refine ⟨x :: xs, by rw [e2, List.append_assoc]; rfl, by rw [List.length_cons, e3], by rw [encA, List.append_assoc, ← e4]; exact e1, fun y hy => ?_⟩
      rcases List.mem_cons.1 hy with h | h
      · rw [h]; exact v1
      · exact e5 y h
theorem arrP_back : ∀ (xs l : List (List Int)) (r : List Int), (∀ x ∈ xs, Row x) → arrP xs.length l (encA xs ++ r) = some (l ++ xs, r)
  | [], l, r, _ => by rw [List.length_nil, arrP, encA, List.append_nil]; rfl
  | x :: xs, l, r, h => by
    rw [List.length_cons, arrP, encA, List.append_assoc, pr_back lastOf x _ (h x List.mem_cons_self)]
    simp only
    rw [arrP_back xs (l ++ [x]) r (fun y hy => h y (List.mem_cons_of_mem _ hy)), List.append_assoc]
    rfl
theorem marksP_sound : ∀ (n : Nat) (l : List (List Int)) (o s : List Int) (l' : List (List Int)) (r : List Int), Bytes s → Short s → marksP n l o s = some (l', r) → ∃ xs, l' = l ++ xs ∧ xs.length = n ∧ s = encM o xs ++ r ∧ ∀ x ∈ xs, Row x
  | 0, l, o, s, l', r, _, _, h => by
    rw [marksP] at h
    injection h with h; injection h with h1 h2
    exact ⟨[], by rw [List.append_nil, h1], rfl, by rw [h2]; rfl, fun x hx => by cases hx⟩
  | n + 1, l, o, s, l', r, hb, hs, h => by
    rw [marksP] at h
    cases h1 : pr (befOf o) s with
    | none => rw [h1] at h; cases h
    | some x =>
      obtain ⟨x, s1⟩ := x
      rw [h1] at h
      simp only at h
      obtain ⟨e1, v1⟩ := pr_sound (befOf o) hb hs h1
      obtain ⟨xs, e2, e3, e4, e5⟩ := marksP_sound n _ x s1 l' r (bytes_right hb e1) (short_right hs e1) h
      refine ⟨x :: xs, by rw [e2, List.append_assoc]; rfl, by rw [List.length_cons, e3], by rw [encM, List.append_assoc, ← e4]; exact e1, fun y hy => ?_⟩
      rcases List.mem_cons.1 hy with h | h
      · rw [h]; exact v1
      · exact e5 y h
theorem marksP_back : ∀ (xs l : List (List Int)) (o r : List Int), (∀ x ∈ xs, Row x) → marksP xs.length l o (encM o xs ++ r) = some (l ++ xs, r)
  | [], l, o, r, _ => by rw [List.length_nil, marksP, encM, List.append_nil]; rfl
  | x :: xs, l, o, r, h => by
    rw [List.length_cons, marksP, encM, List.append_assoc, pr_back (befOf o) x _ (h x List.mem_cons_self)]
    simp only
    rw [marksP_back xs (l ++ [x]) x r (fun y hy => h y (List.mem_cons_of_mem _ hy)), List.append_assoc]
    rfl
def eA (l : List (List Int)) : List Int := numb 9 (l.length : Int) ++ encA l
def eM (l : List (List Int)) : List Int := numb 9 (l.length : Int) ++ encM [] l
theorem parr_sound {s : List Int} {l : List (List Int)} {r : List Int} (hb : Bytes s) (hs : Short s) (h : parr s = some (l, r)) : s = eA l ++ r ∧ Rws l := by
  unfold parr at h
  cases h1 : pm s with
  | none => rw [h1] at h; cases h
  | some x =>
    obtain ⟨x, s1⟩ := x
    rw [h1] at h
    simp only at h
    obtain ⟨e1, e2, e3, e4⟩ := pm_sound hb h1
    obtain ⟨xs, q1, q2, q3, q4⟩ := arrP_sound _ _ _ _ _ (bytes_right hb e1) (short_right hs e1) h
    rw [List.nil_append] at q1
    subst q1
    have hl : (l.length : Int) = x := by omega
    have h5 := short_right hs e1
    unfold Short at h5
    refine ⟨?_, q4, by omega⟩
    unfold eA
    rw [hl, List.append_assoc, ← q3]
    exact e1
theorem parr_back (l : List (List Int)) (r : List Int) (h : Rws l) : parr (eA l ++ r) = some (l, r) := by
  unfold parr eA
  have hl := encA_len l
  rw [List.append_assoc, pm_back l.length _ (by rw [List.length_append]; omega) h.2]
  simp only
  rw [Int.toNat_natCast, arrP_back l [] r h.1]
  rfl
theorem pmarks_sound {s : List Int} {l : List (List Int)} {r : List Int} (hb : Bytes s) (hs : Short s) (h : pmarks s = some (l, r)) : s = eM l ++ r ∧ Rws l := by
  unfold pmarks at h
  cases h1 : pm s with
  | none => rw [h1] at h; cases h
  | some x =>
    obtain ⟨x, s1⟩ := x
    rw [h1] at h
    simp only at h
    obtain ⟨e1, e2, e3, e4⟩ := pm_sound hb h1
    obtain ⟨xs, q1, q2, q3, q4⟩ := marksP_sound _ _ _ _ _ _ (bytes_right hb e1) (short_right hs e1) h
    rw [List.nil_append] at q1
    subst q1
    have hl : (l.length : Int) = x := by omega
    have h5 := short_right hs e1
    unfold Short at h5
    refine ⟨?_, q4, by omega⟩
    unfold eM
    rw [hl, List.append_assoc, ← q3]
    exact e1
theorem pmarks_back (l : List (List Int)) (r : List Int) (h : Rws l) : pmarks (eM l ++ r) = some (l, r) := by
  unfold pmarks eM
  have hl := encM_len [] l
  rw [List.append_assoc, pm_back l.length _ (by rw [List.length_append]; omega) h.2]
  simp only
  rw [Int.toNat_natCast, marksP_back l [] [] r h.1]
  rfl
/-- The same, of what is shorter than any int. -/
structure ReadsS {α : Type} (p : List Int → Option (α × List Int)) (e : α → List Int) (V : α → Prop) : Prop where
  sound : ∀ {s v r}, Bytes s → Short s → p s = some (v, r) → s = e v ++ r ∧ V v
  back : ∀ v r, V v → p (e v ++ r) = some (v, r)
theorem Reads.s {α : Type} {p : List Int → Option (α × List Int)} {e : α → List Int} {V : α → Prop} (h : Reads p e V) : ReadsS p e V := ⟨fun hb _ h1 => h.sound hb h1, h.back⟩
theorem ReadsS.pSeq {α β : Type} {p : List Int → Option (α × List Int)} {e : α → List Int} {V : α → Prop} {q : List Int → Option (β × List Int)} {e' : β → List Int} {V' : β → Prop} (hp : ReadsS p e V) (hq : ReadsS q e' V') :
    ReadsS (pSeq p fun _ => q) (fun x => e x.1 ++ e' x.2) (fun x => V x.1 ∧ V' x.2) where
  sound := by
    intro s v r hb hs h
    unfold M.pSeq at h
    cases h1 : p s with
    | none => rw [h1] at h; cases h
    | some x =>
      obtain ⟨x, s1⟩ := x
      rw [h1] at h
      simp only at h
      obtain ⟨e1, v1⟩ := hp.sound hb hs h1
      cases h2 : q s1 with
      | none => rw [h2] at h; cases h
      | some y =>
        obtain ⟨y, s2⟩ := y
        rw [h2] at h
        obtain ⟨e2, v2⟩ := hq.sound (bytes_right hb e1) (short_right hs e1) h2
        injection h with h; injection h with h3 h4
        subst h3; subst h4
        exact ⟨by rw [e1, e2, List.append_assoc], v1, v2⟩
  back := by
    intro v r h
    unfold M.pSeq
    rw [List.append_assoc, hp.back v.1 _ h.1]
    simp only
    rw [hq.back v.2 _ h.2]
def encT (t : Tr) : List Int :=
  numb 9 (sgn t.1) ++ (eR lastOf t.2.1 ++ (numb 9 t.2.2.1 ++ (numb 9 t.2.2.2.1 ++ (numb 9 t.2.2.2.2.1 ++ (numb 9 t.2.2.2.2.2.1 ++ (numb 9 t.2.2.2.2.2.2.1 ++ (eR lastOf t.2.2.2.2.2.2.2.1 ++ (eA t.2.2.2.2.2.2.2.2.1 ++ eM t.2.2.2.2.2.2.2.2.2))))))))
def VT (t : Tr) : Prop := In64 t.1 ∧ Row t.2.1 ∧ Nat63 t.2.2.1 ∧ Nat63 t.2.2.2.1 ∧ Nat63 t.2.2.2.2.1 ∧ Nat63 t.2.2.2.2.2.1 ∧ Nat63 t.2.2.2.2.2.2.1 ∧ Row t.2.2.2.2.2.2.2.1 ∧ Rws t.2.2.2.2.2.2.2.2.1 ∧ Rws t.2.2.2.2.2.2.2.2.2
theorem reads_trace : ReadsS ptrace encT VT :=
  (reads_ps.s).pSeq (ReadsS.pSeq ⟨pr_sound lastOf, pr_back lastOf⟩ (reads_pp.s.pSeq (reads_pp.s.pSeq (reads_pp.s.pSeq (reads_pp.s.pSeq (reads_pp.s.pSeq (ReadsS.pSeq ⟨pr_sound lastOf, pr_back lastOf⟩ (ReadsS.pSeq ⟨parr_sound, parr_back⟩ ⟨pmarks_sound, pmarks_back⟩))))))))
theorem take_bef (l : List Int) (n : Nat) (hn : n ≤ l.length) : lastOf (l.take n) = bef l n := by
  unfold lastOf bef
  rw [List.length_take, Nat.min_eq_left hn]
  by_cases h : n = 0
  · rw [if_pos h, if_pos h]
  · rw [if_neg h, if_neg h]
    rw [rd_get (by rw [List.length_take]; omega), rd_get (by omega)]
    simp
theorem rowN_enc (l : List Int) (f : List Int → Int) (g : Nat → Int) (hg : ∀ n, n ≤ l.length → f (l.take n) = g n) : ∀ (m n : Nat) (b : List Int), n + m = l.length → rowN (fun j => (rd l (j : Int), g j)) m n b = b ++ encR f (l.take n) (l.drop n)
  | 0, n, b, hn => by
    rw [List.drop_eq_nil_of_le (by omega), encR, List.append_nil]
    rfl
  | m + 1, n, b, hn => by
    have h1 : n < l.length := by omega
    rw [rowN, rowN_enc l f g hg m (n + 1) _ (by omega), List.drop_eq_getElem_cons h1, encR, List.append_assoc]
    simp only
    rw [rd_get h1, hg n (by omega), List.take_add_one, List.getElem?_eq_getElem h1, Option.toList_some]
theorem rowA_enc (l : List Int) (hl : l.length < 9223372036854775808) : rowA [] l = eR lastOf l := by
  unfold rowA eR stepsOf encNum
  rw [← rowN_upto, rowN_enc l lastOf (bef l) (fun n hn => take_bef l n hn) l.length 0 _ (by omega), List.nil_append, wrap_u64 _ (by omega) (by omega)]
  rfl
theorem rowB_enc (l o : List Int) (hl : l.length < 9223372036854775808) : rowB [] l o = eR (befOf o) l := by
  unfold rowB eR besideOf encNum
  rw [← rowN_upto, rowN_enc l (befOf o) (atS o) (fun n hn => by unfold befOf; rw [List.length_take, Nat.min_eq_left hn]) l.length 0 _ (by omega), List.nil_append, wrap_u64 _ (by omega) (by omega)]
  rfl
theorem flatA_enc : ∀ (rs : List (List Int)) (b : List Int), (∀ x ∈ rs, Row x) → flatA rs b = b ++ encA rs
  | [], b, _ => by rw [encA, List.append_nil]; rfl
  | r :: rs, b, h => by
    have e : flatA (r :: rs) b = flatA rs (rowA b r) := rfl
    rw [e, flatA_enc rs _ (fun x hx => h x (List.mem_cons_of_mem _ hx)), ← rowA_app, rowA_enc r (h r List.mem_cons_self).2, encA, List.append_assoc]
theorem flatM_enc : ∀ (rs : List (List Int)) (o b : List Int), (∀ x ∈ rs, Row x) → flatM rs o b = b ++ encM o rs
  | [], o, b, _ => by rw [encM, List.append_nil]; rfl
  | r :: rs, o, b, h => by
    rw [flatM, flatM_enc rs r _ (fun x hx => h x (List.mem_cons_of_mem _ hx)), ← rowB_app, rowB_enc r o (h r List.mem_cons_self).2, encM, List.append_assoc]
def magic : List Int := [71, 84, 82, 67, 1]
def body (t : Tr) : List Int := magic ++ encT t
theorem encNum_63 (b : List Int) (x : Int) (h : Nat63 x) : encNum b x = b ++ numb 9 x := by
  unfold encNum
  rw [wrap_u64 x h.1 (by have := h.2; omega)]
theorem file_eq (fu : Int) (sr : List Int) (e si ki ti re : Int) (sc : List Int) (ar ma : List (List Int)) (h : VT (fu, sr, e, si, ki, ti, re, sc, ar, ma)) : file fu sr e si ki ti re sc ar ma = closed (body (fu, sr, e, si, ki, ti, re, sc, ar, ma)) := by
  obtain ⟨h0, h1, h2, h3, h4, h5, h6, h7, h8, h9⟩ := h
  simp only at h0 h1 h2 h3 h4 h5 h6 h7 h8 h9
  unfold file
  congr 1
  unfold tail start
  rw [flatM_enc ma [] _ h9.1, encNum_63 _ (ma.length : Int) ⟨by omega, by have := h9.2; omega⟩, flatA_enc ar _ h8.1, encNum_63 _ (ar.length : Int) ⟨by omega, by have := h8.2; omega⟩, ← rowA_app _ sc, rowA_enc sc h7.2, encNum_63 _ re h6, encNum_63 _ ti h5, encNum_63 _ ki h4, encNum_63 _ si h3, encNum_63 _ e h2, ← rowA_app _ sr, rowA_enc sr h1.2]
  unfold body encT eA eM magic
  simp only [List.append_assoc]
end Go.Proofs.Ytiemdfdebdmchaa.M
