/- What the law's proof needs of M4. -/
import Derived.Test.YtllfopbchdahoaaTrFM3
import Derived.Test.YtllfopbchdahoaaTrFPx10
namespace Go.Proofs.Ytllfopbchdahoaa.M
open Go.RowKit Go.Proofs.Ytllfopbchdahoaa.P Go.Proofs.YtllfopbchdahoaaW.PrintWords Go.Proofs.YtllfopbchdahoaaW.PrintLast
/-- From some number of rounds on. -/
def Evt {α : Type} (f : Nat → Option α) (r : α) : Prop := ∃ n, ∀ k, n ≤ k → f k = some r
theorem Evt.step {α : Type} {f g : Nat → Option α} {r : α} (h : ∀ k, f (k + 1) = g k) (hg : Evt g r) : Evt f r := by
  obtain ⟨n, hn⟩ := hg
  refine ⟨n + 1, fun k hk => ?_⟩
  obtain ⟨j, rfl⟩ : ∃ j, k = j + 1 := ⟨k - 1, by omega⟩
  rw [h]
  exact hn j (by omega)
theorem Evt.of {α : Type} {f : Nat → Option α} {r : α} (n : Nat) (h : ∀ k, f (k + n) = some r) : Evt f r := by
  refine ⟨n, fun k hk => ?_⟩
  obtain ⟨j, rfl⟩ : ∃ j, k = j + n := ⟨k - n, by omega⟩
  exact h j
theorem Evt.bind {α β : Type} {f : Nat → Option α} {g : Nat → α → Option β} {a : α} {b : β} (hf : Evt f a) (hg : Evt (fun k => g k a) b) : Evt (fun k => (f k).bind fun x => g k x) b := by
  obtain ⟨n, hn⟩ := hf
  obtain ⟨m, hm⟩ := hg
  refine ⟨n + m, fun k hk => ?_⟩
  simp only [hn k (by omega), Option.bind_some]
  exact hm k (by omega)
theorem Evt.congr {α : Type} {f g : Nat → Option α} {r : α} (h : ∀ k, f k = g k) (hg : Evt g r) : Evt f r := by
  obtain ⟨n, hn⟩ := hg
  exact ⟨n, fun k hk => (h k).trans (hn k hk)⟩
theorem Evt.is {α : Type} {f : Nat → Option α} {r : α} (h : Evt f r) : ∃ k, f k = some r := by
  obtain ⟨n, hn⟩ := h
  exact ⟨n, hn n (Nat.le_refl _)⟩
def tup (r : L5 × Bool) : Int × Int × Int × Int × Int × Bool := (r.1.x, r.1.s, r.1.y, r.1.t, r.1.c, r.2)
def pr (q : S50) : Int × Int := (q.f0, q.f1)
def insS : List S50 → S50 → List S50
  | [], p => [p]
  | q :: L, p => if q.f0 < p.f0 then q :: insS L p else if q.f0 = p.f0 then ⟨q.f0, wrap64 (q.f1 + p.f1)⟩ :: L else p :: q :: L
theorem insS_pr (p : S50) : ∀ L : List S50, (insS L p).map pr = insP (L.map pr) (pr p)
  | [] => rfl
  | q :: L => by
    unfold insS
    simp only [List.map_cons, insP]
    have e : (pr q).1 = q.f0 := rfl
    have e2 : (pr p).1 = p.f0 := rfl
    rw [e, e2]
    split
    · rw [List.map_cons, insS_pr p L]
    · split <;> rfl
theorem insS_length (p : S50) : ∀ L : List S50, (insS L p).length ≤ L.length + 1
  | [] => Nat.le_refl _
  | q :: L => by
    unfold insS
    split
    · simp only [List.length_cons]; have := insS_length p L; omega
    · split <;> simp
theorem rd_drop {row : List S50} {n : Nat} (h : n < row.length) : row.drop n = rd_T50 row (n : Int) :: row.drop (n + 1) := by
  unfold rd_T50
  rw [Int.toNat_natCast, List.getD_eq_getElem?_getD, List.getElem?_eq_getElem h, Option.getD_some]
  exact List.drop_eq_getElem_cons h
/-- A part's place is found, and it is put there. -/
theorem loop2 {R : Type} {r : R} (F : Nat → List S50 → Int → Option R) (G : Nat → List S50 → Option R) (p : S50)
    (hF : ∀ k row (n : Nat), n ≤ row.length → row.length < 1000 → F (k + 1) row n = if n < row.length then (if (rd_T50 row n).f0 < p.f0 then F k row (n + 1 : Nat) else if (rd_T50 row n).f0 = p.f0 then G k (row.set n ⟨(rd_T50 row n).f0, wrap64 ((rd_T50 row n).f1 + p.f1)⟩) else G k (row.take n ++ ([p] ++ row.drop n))) else G k (row.take n ++ ([p] ++ row.drop n))) :
    ∀ (m : Nat) (row : List S50) (n : Nat), n + m = row.length → row.length < 1000 → Evt (fun k => G k (row.take n ++ insS (row.drop n) p)) r → Evt (fun k => F k row (n : Int)) r
  | 0, row, n, hn, hl, h => by
    have e : row.drop n = [] := List.drop_eq_nil_of_le (by omega)
    refine Evt.step (g := fun k => G k (row.take n ++ insS (row.drop n) p)) (fun k => ?_) h
    rw [hF k row n (by omega) hl, if_neg (by omega), e]
    rfl
  | m + 1, row, n, hn, hl, h => by
    have hlt : n < row.length := by omega
    have e := rd_drop hlt
    by_cases h1 : (rd_T50 row n).f0 < p.f0
    · refine Evt.step (g := fun k => F k row ((n + 1 : Nat) : Int)) (fun k => by rw [hF k row n (by omega) hl, if_pos hlt, if_pos h1]) ?_
      refine loop2 F G p hF m row (n + 1) (by omega) hl ?_
      refine Evt.congr (fun k => ?_) h
      congr 1
      rw [e, insS, if_pos h1, List.take_add_one, List.getElem?_eq_getElem hlt]
      simp only [Option.toList_some, List.append_assoc, List.singleton_append]
      unfold rd_T50
      rw [Int.toNat_natCast, List.getD_eq_getElem?_getD, List.getElem?_eq_getElem hlt, Option.getD_some]
    · by_cases h2 : (rd_T50 row n).f0 = p.f0
      · refine Evt.step (g := fun k => G k (row.take n ++ insS (row.drop n) p)) (fun k => ?_) h
        rw [hF k row n (by omega) hl, if_pos hlt, if_neg h1, if_pos h2, e, insS, if_neg h1, if_pos h2, List.set_eq_take_append_cons_drop, if_pos hlt]
      · refine Evt.step (g := fun k => G k (row.take n ++ insS (row.drop n) p)) (fun k => ?_) h
        rw [hF k row n (by omega) hl, if_pos hlt, if_neg h1, if_neg h2, e, insS, if_neg h1, if_neg h2]
        rfl
theorem nat_step (n : Nat) (h : n < 1000) : wrap64 ((n : Int) + 1) = ((n + 1 : Nat) : Int) := by
  rw [wrap64_in _ (by omega)]; omega
/-- One part (with its sign) into the row. -/
def put1 (row : List S50) (x s : Int) : List S50 := if s = 0 then row else insS row ⟨x, s⟩
theorem put1_length (row : List S50) (x s : Int) : (put1 row x s).length ≤ row.length + 1 := by
  unfold put1
  split
  · omega
  · exact insS_length _ _
theorem l2_ev {r : Int × Int × Int × Int × Int × Bool} (row : List S50) (hl : row.length < 1000) (x28 x33 a0 a1 a2 a3 a4 b0 b1 b2 b3 b4 px ps c0 c1 c2 c3 c4 c5 c6 c7 c8 c9 d0 d1 d2 d3 : Int)
    (h : Evt (fun k => linear_Add.l1 k (insS row ⟨px, ps⟩) x28 (wrap64 (x33 + 1)) a0 a1 a2 a3 a4 b0 b1 b2 b3 b4 c0 c1 c2 c3 c4 c5 c6 c7 c8 c9 d0 d1 d2 d3) r) :
    Evt (fun k => linear_Add.l2 k row 0 x28 x33 a0 a1 a2 a3 a4 b0 b1 b2 b3 b4 px ps c0 c1 c2 c3 c4 c5 c6 c7 c8 c9 d0 d1 d2 d3) r := by
  refine loop2 (fun k row n => linear_Add.l2 k row n x28 x33 a0 a1 a2 a3 a4 b0 b1 b2 b3 b4 px ps c0 c1 c2 c3 c4 c5 c6 c7 c8 c9 d0 d1 d2 d3) (fun k row => linear_Add.l1 k row x28 (wrap64 (x33 + 1)) a0 a1 a2 a3 a4 b0 b1 b2 b3 b4 c0 c1 c2 c3 c4 c5 c6 c7 c8 c9 d0 d1 d2 d3) ⟨px, ps⟩ (fun k row n hn hl => ?_) row.length row 0 (by omega) hl (by simpa using h)
  have i1 : ((n : Int) < (row.length : Int)) ↔ n < row.length := by omega
  have l1 : ([(⟨px, ps⟩ : S50)] : List S50).length + (row.drop n).length < 8796093022208 := by simp only [List.length_cons, List.length_nil, List.length_drop]; omega
  have l2 : (row.take n).length + (([(⟨px, ps⟩ : S50)] : List S50) ++ row.drop n).length < 8796093022208 := by simp only [List.length_append, List.length_cons, List.length_nil, List.length_drop, List.length_take]; omega
  simp only [linear_Add.l2, Option.bind_some, Int.toNat_natCast]
  rw [if_pos l1, if_pos l2, if_pos (show (0 : Int) ≤ (n : Int) by omega), if_pos (show (n : Int) ≤ (row.length : Int) by omega)]
  by_cases hlt : n < row.length
  · rw [if_pos (i1.2 hlt), if_pos hlt, nat_step n (by omega)]
  · rw [if_neg (fun h => hlt (i1.1 h)), if_neg hlt, if_pos (show (0 : Int) ≤ (n : Int) by omega)]
theorem l1_ev {r : Int × Int × Int × Int × Int × Bool} (row : List S50) (hl : row.length < 900) (x28 a0 a1 a2 a3 a4 b0 b1 b2 b3 b4 c0 c1 c2 c3 c4 c5 c6 c7 c8 c9 d0 d1 d2 d3 : Int)
    (h : Evt (fun k => linear_Add.l0 k (put1 (put1 row d0 d1) d2 d3) (wrap64 (x28 + 1)) a0 a1 a2 a3 a4 b0 b1 b2 b3 b4 c0 c1 c2 c3 c4 c5 c6 c7 c8 c9) r) :
    Evt (fun k => linear_Add.l1 k row x28 0 a0 a1 a2 a3 a4 b0 b1 b2 b3 b4 c0 c1 c2 c3 c4 c5 c6 c7 c8 c9 d0 d1 d2 d3) r := by
  have s2 : ∀ row2, Evt (fun k => linear_Add.l0 k row2 (wrap64 (x28 + 1)) a0 a1 a2 a3 a4 b0 b1 b2 b3 b4 c0 c1 c2 c3 c4 c5 c6 c7 c8 c9) r → Evt (fun k => linear_Add.l1 k row2 x28 2 a0 a1 a2 a3 a4 b0 b1 b2 b3 b4 c0 c1 c2 c3 c4 c5 c6 c7 c8 c9 d0 d1 d2 d3) r := by
    intro row2 h
    exact Evt.step (fun k => by rw [linear_Add.l1, if_neg (by decide)]) h
  have s1 : ∀ row2, row2.length < 1000 → Evt (fun k => linear_Add.l1 k (put1 row2 d2 d3) x28 2 a0 a1 a2 a3 a4 b0 b1 b2 b3 b4 c0 c1 c2 c3 c4 c5 c6 c7 c8 c9 d0 d1 d2 d3) r → Evt (fun k => linear_Add.l1 k row2 x28 1 a0 a1 a2 a3 a4 b0 b1 b2 b3 b4 c0 c1 c2 c3 c4 c5 c6 c7 c8 c9 d0 d1 d2 d3) r := by
    intro row2 hl2 h
    by_cases hz : d3 = 0
    · rw [show put1 row2 d2 d3 = row2 from if_pos hz] at h
      exact Evt.step (fun k => by rw [linear_Add.l1, if_pos (by decide), if_pos (by decide), if_pos (show pk2 1 d1 d3 = 0 from hz), w11]) h
    · rw [show put1 row2 d2 d3 = insS row2 ⟨d2, d3⟩ from if_neg hz, ← w11] at h
      exact Evt.step (fun k => by rw [linear_Add.l1, if_pos (by decide), if_pos (by decide), if_neg (show ¬ pk2 1 d1 d3 = 0 from hz)]; rfl) (l2_ev row2 hl2 x28 1 a0 a1 a2 a3 a4 b0 b1 b2 b3 b4 d2 d3 c0 c1 c2 c3 c4 c5 c6 c7 c8 c9 d0 d1 d2 d3 h)
  have h1 := s1 (put1 row d0 d1) (by have := put1_length row d0 d1; omega) (s2 _ h)
  by_cases hz : d1 = 0
  · rw [show put1 row d0 d1 = row from if_pos hz] at h1
    exact Evt.step (fun k => by rw [linear_Add.l1, if_pos (by decide), if_pos (by decide), if_pos (show pk2 0 d1 d3 = 0 from hz), w01]) h1
  · rw [show put1 row d0 d1 = insS row ⟨d0, d1⟩ from if_neg hz, ← w01] at h1
    exact Evt.step (fun k => by rw [linear_Add.l1, if_pos (by decide), if_pos (by decide), if_neg (show ¬ pk2 0 d1 d3 = 0 from hz)]; rfl) (l2_ev row (by omega) x28 0 a0 a1 a2 a3 a4 b0 b1 b2 b3 b4 d0 d1 c0 c1 c2 c3 c4 c5 c6 c7 c8 c9 d0 d1 d2 d3 h1)
theorem l0_ev {r : Int × Int × Int × Int × Int × Bool} (a0 a1 a2 a3 a4 b0 b1 b2 b3 b4 c0 c1 c2 c3 c4 c5 c6 c7 c8 c9 : Int)
    (h : Evt (fun k => linear_Add.l3 k 0 (put1 (put1 (put1 (put1 [] c0 c1) c2 c3) c5 c6) c7 c8) ((put1 (put1 (put1 (put1 [] c0 c1) c2 c3) c5 c6) c7 c8).length : Int) 0 0 0 0 0 (wrap64 (a4 + b4))) r) :
    Evt (fun k => linear_Add.l0 k [] 0 a0 a1 a2 a3 a4 b0 b1 b2 b3 b4 c0 c1 c2 c3 c4 c5 c6 c7 c8 c9) r := by
  have pl : ∀ row x s, (put1 row x s).length ≤ row.length + 1 := by
    intro row x s
    unfold put1
    split
    · omega
    · exact insS_length _ _
  have h2 : Evt (fun k => linear_Add.l0 k (put1 (put1 (put1 (put1 [] c0 c1) c2 c3) c5 c6) c7 c8) 2 a0 a1 a2 a3 a4 b0 b1 b2 b3 b4 c0 c1 c2 c3 c4 c5 c6 c7 c8 c9) r :=
    Evt.step (fun k => by rw [linear_Add.l0, if_neg (by decide)]) h
  have h1 : Evt (fun k => linear_Add.l0 k (put1 (put1 [] c0 c1) c2 c3) 1 a0 a1 a2 a3 a4 b0 b1 b2 b3 b4 c0 c1 c2 c3 c4 c5 c6 c7 c8 c9) r := by
    rw [← w11] at h2
    refine Evt.step (fun k => ?_) (l1_ev (put1 (put1 [] c0 c1) c2 c3) (by have := pl (put1 [] c0 c1) c2 c3; have := pl [] c0 c1; simp only [List.length_nil] at this; omega) 1 a0 a1 a2 a3 a4 b0 b1 b2 b3 b4 c0 c1 c2 c3 c4 c5 c6 c7 c8 c9 c5 c6 c7 c8 h2)
    rw [linear_Add.l0, if_pos (by decide), if_pos (by decide)]
    rfl
  rw [← w01] at h1
  refine Evt.step (fun k => ?_) (l1_ev [] (by simp) 0 a0 a1 a2 a3 a4 b0 b1 b2 b3 b4 c0 c1 c2 c3 c4 c5 c6 c7 c8 c9 c0 c1 c2 c3 h1)
  rw [linear_Add.l0, if_pos (by decide), if_pos (by decide)]
  rfl
def stp (st : Int × Int × Int × Int × Int) (q : Int × Int) : Int × Int × Int × Int × Int := if q.2 = 0 then st else if st.1 = 0 then (st.1 + 1, q.1, q.2, st.2.2.2.1, st.2.2.2.2) else if st.1 = 1 then (st.1 + 1, st.2.1, st.2.2.1, q.1, q.2) else (st.1 + 1, st.2)
def fin (st : Int × Int × Int × Int × Int) (c : Int) : L5 × Bool := if st.1 > 2 then (zero5, false) else if Fit ⟨st.2.1, st.2.2.1, st.2.2.2.1, st.2.2.2.2, c⟩ then (⟨st.2.1, st.2.2.1, st.2.2.2.1, st.2.2.2.2, c⟩, true) else (zero5, false)
theorem l3_ev : ∀ (m : Nat) (row : List S50) (i : Nat) (n x s y t c : Int), i + m = row.length → row.length < 900 → 0 ≤ n → n ≤ i →
    Evt (fun k => linear_Add.l3 k n row (row.length : Int) (i : Int) x s y t c) (tup (fin (((row.drop i).map pr).foldl stp (n, x, s, y, t)) c))
  | 0, row, i, n, x, s, y, t, c, hi, hl, h0, hn => by
    have e : row.drop i = [] := List.drop_eq_nil_of_le (by omega)
    rw [e, List.map_nil, List.foldl_nil]
    refine Evt.of 2 (fun k => ?_)
    rw [linear_Add.l3, if_neg (by omega), fit_eq]
    unfold fin
    simp only [Option.bind_some]
    by_cases h2 : n > 2
    · rw [if_pos h2, if_pos h2]; rfl
    · rw [if_neg h2, if_neg h2]
      by_cases hf : Fit ⟨x, s, y, t, c⟩
      · rw [if_pos (decide_eq_true hf), if_pos hf]; rfl
      · rw [if_neg (by rw [decide_eq_false hf]; decide), if_neg hf]; rfl
  | m + 1, row, i, n, x, s, y, t, c, hi, hl, h0, hn => by
    have hlt : i < row.length := by omega
    rw [rd_drop hlt, List.map_cons, List.foldl_cons]
    have un : ∀ k, linear_Add.l3 (k + 1) n row (row.length : Int) (i : Int) x s y t c = linear_Add.l3 k (stp (n, x, s, y, t) (pr (rd_T50 row i))).1 row (row.length : Int) ((i + 1 : Nat) : Int) (stp (n, x, s, y, t) (pr (rd_T50 row i))).2.1 (stp (n, x, s, y, t) (pr (rd_T50 row i))).2.2.1 (stp (n, x, s, y, t) (pr (rd_T50 row i))).2.2.2.1 (stp (n, x, s, y, t) (pr (rd_T50 row i))).2.2.2.2 c := by
      intro k
      rw [linear_Add.l3, if_pos (by omega), if_pos (by omega), if_pos (by omega), nat_step i (by omega), wrap64_in (n + 1) (by omega)]
      unfold stp
      have e : (pr (rd_T50 row i)).2 = (rd_T50 row i).f1 := rfl
      rw [e]
      split
      · rfl
      · split
        · rfl
        · split <;> rfl
    have b : 0 ≤ (stp (n, x, s, y, t) (pr (rd_T50 row i))).1 ∧ (stp (n, x, s, y, t) (pr (rd_T50 row i))).1 ≤ ((i + 1 : Nat) : Int) := by
      unfold stp
      split
      · simp only; omega
      · split
        · simp only; omega
        · split <;> simp only <;> omega
    exact Evt.step un (l3_ev m row (i + 1) _ _ _ _ _ c (by omega) hl b.1 b.2)
theorem stp_nz : ∀ (L : List (Int × Int)) st, L.foldl stp st = (nz L).foldl stp st
  | [], _ => rfl
  | q :: L, st => by
    unfold nz
    rw [List.filter_cons, List.foldl_cons]
    by_cases h : q.2 = 0
    · rw [if_neg (by simp [h]), show stp st q = st from if_pos h]
      exact stp_nz L st
    · rw [if_pos (by simp [h]), List.foldl_cons]
      exact stp_nz L _
theorem stp_many : ∀ (L : List (Int × Int)) st, st.1 > 2 → (L.foldl stp st).1 > 2
  | [], _, h => h
  | q :: L, st, h => by
    rw [List.foldl_cons]
    refine stp_many L _ ?_
    unfold stp
    split
    · exact h
    · rw [if_neg (by omega), if_neg (by omega)]
      simp only; omega
theorem stp_fst {st : Int × Int × Int × Int × Int} {q : Int × Int} (h : q.2 ≠ 0) : (stp st q).1 = st.1 + 1 := by
  unfold stp
  rw [if_neg h]
  split
  · rfl
  · split <;> rfl
theorem fin_told {L : List (Int × Int)} {c : Int} (hr : Rise (nz L)) : fin (L.foldl stp (0, 0, 0, 0, 0)) c = told (nz L) c := by
  rw [stp_nz]
  have hz : ∀ p ∈ nz L, p.2 ≠ 0 := nz_ne
  match nz L, hr, hz with
  | [], _, _ => rfl
  | [p], _, hz =>
    have h1 := hz p List.mem_cons_self
    simp only [List.foldl_cons, List.foldl_nil, stp, if_neg h1, if_true]
    rfl
  | [p, q], hr, hz =>
    have h1 := hz p List.mem_cons_self
    have h2 := hz q (List.mem_cons_of_mem _ List.mem_cons_self)
    have h3 : p.1 < q.1 := (List.pairwise_cons.1 hr).1 q List.mem_cons_self
    simp only [List.foldl_cons, List.foldl_nil, stp, if_neg h1, if_neg h2, if_true]
    simp only [fin, told, cand, mk2, if_neg (show ¬ p.1 > q.1 by omega)]
    rfl
  | p :: q :: r :: M, hr, hz =>
    have h1 := hz p List.mem_cons_self
    have h2 := hz q (List.mem_cons_of_mem _ List.mem_cons_self)
    have h3 := hz r (List.mem_cons_of_mem _ (List.mem_cons_of_mem _ List.mem_cons_self))
    rw [List.foldl_cons, List.foldl_cons, List.foldl_cons]
    unfold fin
    rw [if_pos (stp_many M _ (by rw [stp_fst h3, stp_fst h2, stp_fst h1]; decide))]
    rfl
theorem put1_pr (row : List S50) (x s : Int) : (put1 row x s).map pr = insAll (row.map pr) (if s = 0 then [] else [(x, s)]) := by
  unfold put1
  split
  · rfl
  · rw [insS_pr]; rfl
theorem insAll_append (L P Q : List (Int × Int)) : insAll L (P ++ Q) = insAll (insAll L P) Q := List.foldl_append
/-- Add of the program. -/
theorem add_eq (a b : L5) : Evt (fun k => linear_Add.f k a.x a.s a.y a.t a.c b.x b.s b.y b.t b.c) (tup (add5 a b)) := by
  have z0 : Evt (fun k => linear_Add.j0 k true a.x a.s a.y a.t a.c b.x b.s b.y b.t b.c) (tup (zero5, false)) := Evt.of 1 (fun k => by rw [linear_Add.j0, if_pos rfl]; rfl)
  have fa : Evt (fun k => linear_Fit.f k a.x a.s a.y a.t a.c) (decide (Fit a)) := Evt.of 1 (fun k => fit_eq k _ _ _ _ _)
  have fb : Evt (fun k => linear_Fit.f k b.x b.s b.y b.t b.c) (decide (Fit b)) := Evt.of 1 (fun k => fit_eq k _ _ _ _ _)
  unfold linear_Add.f
  refine Evt.bind fa ?_
  by_cases ha : Fit a
  · refine Evt.congr (fun k => if_pos (decide_eq_true ha)) ?_
    refine Evt.bind fb ?_
    by_cases hb : Fit b
    · have hc : (wrap64 (a.c + b.c)) = a.c + b.c := wrap64_in _ (by have := ha.1; have := ha.2.1; have := hb.1; have := hb.2.1; omega)
      obtain ⟨h1, _⟩ := ins_of ha hb
      have e : ((put1 (put1 (put1 (put1 [] a.x a.s) a.y a.t) b.x b.s) b.y b.t).map pr) = insAll (insAll [] (parts a)) (parts b) := by
        simp only [put1_pr, parts, insAll_append]
        rfl
      have pl : ∀ row x s, (put1 row x s).length ≤ row.length + 1 := by
        intro row x s
        unfold put1
        split
        · omega
        · exact insS_length _ _
      have hlen : (put1 (put1 (put1 (put1 [] a.x a.s) a.y a.t) b.x b.s) b.y b.t).length < 900 := by
        have := pl (put1 (put1 (put1 [] a.x a.s) a.y a.t) b.x b.s) b.y b.t
        have := pl (put1 (put1 [] a.x a.s) a.y a.t) b.x b.s
        have := pl (put1 [] a.x a.s) a.y a.t
        have := pl [] a.x a.s
        simp only [List.length_nil] at this
        omega
      have h3 := l3_ev (put1 (put1 (put1 (put1 [] a.x a.s) a.y a.t) b.x b.s) b.y b.t).length (put1 (put1 (put1 (put1 [] a.x a.s) a.y a.t) b.x b.s) b.y b.t) 0 0 0 0 0 0 (wrap64 (a.c + b.c)) (by omega) hlen (by omega) (by omega)
      rw [List.drop_zero, e, fin_told h1, ins_told ha hb, hc] at h3
      have h4 : add5 a b = told (nz (putAll (parts a) (parts b))) (a.c + b.c) := by unfold add5; rw [if_pos ⟨ha, hb⟩]
      rw [← h4, ← hc] at h3
      have h5 := l0_ev a.x a.s a.y a.t a.c b.x b.s b.y b.t b.c a.x a.s a.y a.t a.c b.x b.s b.y b.t b.c h3
      have h6 : Evt (fun k => linear_Add.j1 k [] a.x a.s a.y a.t a.c b.x b.s b.y b.t b.c) (tup (add5 a b)) := Evt.step (fun k => by rw [linear_Add.j1]) h5
      exact Evt.step (fun k => by rw [linear_Add.j0, if_neg (by rw [decide_eq_true hb]; decide)]) h6
    · rw [show add5 a b = (zero5, false) from by unfold add5; rw [if_neg (fun h => hb h.2)]]
      rw [decide_eq_false hb]
      exact z0
  · rw [show add5 a b = (zero5, false) from by unfold add5; rw [if_neg (fun h => ha h.1)]]
    exact Evt.congr (fun k => if_neg (by rw [decide_eq_false ha]; decide)) z0
end Go.Proofs.Ytllfopbchdahoaa.M
