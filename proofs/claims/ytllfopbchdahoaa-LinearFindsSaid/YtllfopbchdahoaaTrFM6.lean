import Derived.Test.YtllfopbchdahoaaTrFM4
import Derived.Test.YtllfopbchdahoaaTrFPx11
import Derived.Test.YtllfopbchdahoaaTrFPx13
import Derived.Test.YtllfopbchdahoaaTrFPx16
import Derived.Test.YtllfopbchdahoaaTrFPx17
/- What the law's proof needs of M5. -/
namespace Go.Proofs.Ytllfopbchdahoaa.M
open Go.RowKit Go.Proofs.Ytllfopbchdahoaa.P Go.Proofs.YtllfopbchdahoaaW.PrintWords Go.Proofs.YtllfopbchdahoaaW.PrintLast
def negr (a : L5) : L5 × Bool := if Fit a then (neg5 a, true) else (zero5, false)
def subr (a b : L5) : L5 × Bool := if Fit b then add5 a (neg5 b) else (zero5, false)
theorem neg_wraps {a : L5} (h : Fit a) : wrap64 (-a.s) = -a.s ∧ wrap64 (-a.t) = -a.t ∧ wrap64 (-a.c) = -a.c := by
  obtain ⟨hs, ht, _, _, _, hc⟩ := fit_signs h
  exact ⟨wrap64_in _ (by omega), wrap64_in _ (by omega), wrap64_in _ (by omega)⟩
theorem fit_ev (a : L5) : Evt (fun k => linear_Fit.f k a.x a.s a.y a.t a.c) (decide (Fit a)) := Evt.of 1 (fun k => fit_eq k _ _ _ _ _)
theorem value_ev (a : L5) (v : List Int) : Evt (fun k => linear_Value.f k a.x a.s a.y a.t a.c v) (val5 a v) := Evt.of 3 (fun k => value_eq k _ _)
theorem neg_eq (a : L5) : Evt (fun k => linear_Neg.f k a.x a.s a.y a.t a.c) (tup (negr a)) := by
  unfold linear_Neg.f
  refine Evt.bind (fit_ev a) ?_
  unfold negr
  by_cases h : Fit a
  · rw [if_pos h]
    obtain ⟨h1, h2, h3⟩ := neg_wraps h
    refine Evt.of 0 (fun k => ?_)
    rw [if_pos (decide_eq_true h), h1, h2, h3]
    rfl
  · rw [if_neg h]
    refine Evt.of 0 (fun k => ?_)
    rw [if_neg (by rw [decide_eq_false h]; decide)]
    rfl
theorem sub_eq (a b : L5) : Evt (fun k => linear_Sub.f k a.x a.s a.y a.t a.c b.x b.s b.y b.t b.c) (tup (subr a b)) := by
  unfold linear_Sub.f
  refine Evt.bind (neg_eq b) ?_
  unfold negr subr
  by_cases h : Fit b
  · rw [if_pos h, if_pos h]
    refine Evt.congr (fun k => if_pos rfl) ?_
    exact Evt.bind (add_eq a (neg5 b)) (Evt.of 0 (fun k => rfl))
  · rw [if_neg h, if_neg h]
    refine Evt.of 0 (fun k => ?_)
    exact if_neg (by decide)
theorem awake_ev : Evt (fun k => gimballaw14_awake.f k) true := by
  unfold gimballaw14_awake.f
  have e : add5 ⟨0, 1, 0, 0, 1⟩ ⟨2, -1, 0, 0, 4⟩ = (⟨0, 1, 2, -1, 5⟩, true) := by decide +kernel
  have ha := add_eq ⟨0, 1, 0, 0, 1⟩ ⟨2, -1, 0, 0, 4⟩
  rw [e] at ha
  refine Evt.bind ha ?_
  refine Evt.congr (fun k => if_pos rfl) ?_
  refine Evt.congr (fun k => if_pos (by decide)) ?_
  have hv := value_ev ⟨0, 1, 2, -1, 5⟩ [10, 0, 3]
  have ev : val5 ⟨0, 1, 2, -1, 5⟩ [10, 0, 3] = 12 := by decide +kernel
  rw [ev] at hv
  refine Evt.bind hv ?_
  refine Evt.congr (fun k => if_pos rfl) ?_
  have hf := fit_ev ⟨0, 1, 2, -1, 5⟩
  rw [decide_eq_true (show Fit ⟨0, 1, 2, -1, 5⟩ from by decide +kernel)] at hf
  exact Evt.bind hf (Evt.of 0 (fun k => rfl))
end Go.Proofs.Ytllfopbchdahoaa.M
/- What the law's proof needs of M6. -/
namespace Go.Proofs.Ytllfopbchdahoaa.M
open Go.RowKit Go.Proofs.Ytllfopbchdahoaa.P Go.Proofs.YtllfopbchdahoaaW.PrintWords Go.Proofs.YtllfopbchdahoaaW.PrintLast
def pr6 (q : S56) : Int × Int := (q.f0, q.f1)
theorem pr6_l56 : ∀ L : List (Int × Int), (L.map l56).map pr6 = L
  | [] => rfl
  | p :: L => by rw [List.map_cons, List.map_cons, pr6_l56 L]; rfl
def putS : List S56 → S56 → List S56
  | [], p => [p]
  | q :: L, p => if q.f0 = p.f0 then ⟨q.f0, wrap64 (q.f1 + p.f1)⟩ :: L else q :: putS L p
theorem putS_pr (p : S56) : ∀ L : List S56, (putS L p).map pr6 = putP (L.map pr6) (pr6 p)
  | [] => rfl
  | q :: L => by
    unfold putS
    simp only [List.map_cons, putP]
    have e : (pr6 q).1 = q.f0 := rfl
    have e2 : (pr6 p).1 = p.f0 := rfl
    rw [e, e2]
    split
    · rfl
    · rw [List.map_cons, putS_pr p L]
theorem putS_length (p : S56) : ∀ L : List S56, (putS L p).length ≤ L.length + 1
  | [] => Nat.le_refl _
  | q :: L => by
    unfold putS
    split
    · simp
    · simp only [List.length_cons]; have := putS_length p L; omega
theorem rd_drop6 {row : List S56} {n : Nat} (h : n < row.length) : row.drop n = rd_T56 row (n : Int) :: row.drop (n + 1) := by
  unfold rd_T56
  rw [Int.toNat_natCast, List.getD_eq_getElem?_getD, List.getElem?_eq_getElem h, Option.getD_some]
  exact List.drop_eq_getElem_cons h
theorem put_l0 (p : S56) : ∀ (m : Nat) (row : List S56) (n : Nat), n + m = row.length → row.length < 900 → Evt (fun k => gimbalref14_put.l0 k row (n : Int) p.f0 p.f1) (row.take n ++ putS (row.drop n) p)
  | 0, row, n, hn, hl => by
    have e : row.drop n = [] := List.drop_eq_nil_of_le (by omega)
    rw [e, List.take_of_length_le (by omega)]
    refine Evt.of 1 (fun k => ?_)
    rw [gimbalref14_put.l0, if_neg (by omega), if_pos (by omega)]
    rfl
  | m + 1, row, n, hn, hl => by
    have hlt : n < row.length := by omega
    have e := rd_drop6 hlt
    by_cases h : (rd_T56 row n).f0 = p.f0
    · refine Evt.of 1 (fun k => ?_)
      rw [gimbalref14_put.l0, if_pos (by omega), if_pos (by omega), if_pos h, e, putS, if_pos h, Int.toNat_natCast, List.set_eq_take_append_cons_drop, if_pos hlt]
    · have := put_l0 p m row (n + 1) (by omega) hl
      rw [List.take_add_one, List.getElem?_eq_getElem hlt] at this
      simp only [Option.toList_some, List.append_assoc, List.singleton_append] at this
      rw [e, putS, if_neg h]
      have e2 : row[n] = rd_T56 row (n : Int) := by
        unfold rd_T56
        rw [Int.toNat_natCast, List.getD_eq_getElem?_getD, List.getElem?_eq_getElem hlt, Option.getD_some]
      rw [e2] at this
      refine Evt.step (fun k => ?_) this
      rw [gimbalref14_put.l0, if_pos (by omega), if_pos (by omega), if_neg h, nat_step n (by omega)]
theorem put_ev (row : List S56) (p : S56) (hl : row.length < 900) : Evt (fun k => gimbalref14_put.f k row p.f0 p.f1) (putS row p) := put_l0 p row.length row 0 (by omega) hl
def stp2 (st : Int × Int × Int × Int × Int) (q : Int × Int) : Int × Int × Int × Int × Int := if q.2 = 0 then st else if st.1 + 1 = 1 then (st.1 + 1, q.1, q.2, st.2.2.2.1, st.2.2.2.2) else (st.1 + 1, st.2.1, st.2.2.1, q.1, q.2)
def pick5 (st : Int × Int × Int × Int × Int) (c : Int) : L5 := if st.1 = 2 ∧ st.2.1 > st.2.2.2.1 then ⟨st.2.2.2.1, st.2.2.2.2, st.2.1, st.2.2.1, c⟩ else ⟨st.2.1, st.2.2.1, st.2.2.2.1, st.2.2.2.2, c⟩
def fin2 (st : Int × Int × Int × Int × Int) (c : Int) : L5 × Bool := if st.1 > 2 then (zero5, false) else if Fit (pick5 st c) then (pick5 st c, true) else (zero5, false)
theorem fin2_many {st : Int × Int × Int × Int × Int} {c : Int} (h : st.1 > 2) : fin2 st c = (zero5, false) := if_pos h
theorem fin2_few {st : Int × Int × Int × Int × Int} {c : Int} {l : L5} (h : ¬ st.1 > 2) (hl : pick5 st c = l) : fin2 st c = if Fit l then (l, true) else (zero5, false) := by
  unfold fin2
  rw [if_neg h, hl]
theorem told_j1 (n x s y t c : Int) (b : Bool) (hb : b = true ↔ (n = 2 ∧ x > y)) : Evt (fun k => gimbalref14_told.j1 k c n b x s y t c) (tup (fin2 (n, x, s, y, t) c)) := by
  refine Evt.of 3 (fun k => ?_)
  rw [gimbalref14_told.j1, reffit_eq, reffit_eq]
  simp only [Option.bind_some]
  by_cases h2 : n > 2
  · rw [fin2_many (st := (n, x, s, y, t)) h2]
    simp only [if_pos h2, ite_self]
    rfl
  · simp only [if_neg h2]
    by_cases hh : n = 2 ∧ x > y
    · rw [if_pos (hb.2 hh), fin2_few (st := (n, x, s, y, t)) (l := ⟨y, t, x, s, c⟩) h2 (if_pos hh)]
      by_cases hf : Fit ⟨y, t, x, s, c⟩
      · rw [if_pos (decide_eq_true hf), if_pos hf]; rfl
      · rw [if_neg (by rw [decide_eq_false hf]; decide), if_neg hf]; rfl
    · rw [if_neg (fun h => hh (hb.1 h)), fin2_few (st := (n, x, s, y, t)) (l := ⟨x, s, y, t, c⟩) h2 (if_neg hh)]
      by_cases hf : Fit ⟨x, s, y, t, c⟩
      · rw [if_pos (decide_eq_true hf), if_pos hf]; rfl
      · rw [if_neg (by rw [decide_eq_false hf]; decide), if_neg hf]; rfl
theorem told_l0 : ∀ (m : Nat) (row : List S56) (i : Nat) (n x s y t c : Int), i + m = row.length → row.length < 900 → 0 ≤ n → n ≤ i →
    Evt (fun k => gimbalref14_told.l0 k row c n (i : Int) x s y t c) (tup (fin2 (((row.drop i).map pr6).foldl stp2 (n, x, s, y, t)) c))
  | 0, row, i, n, x, s, y, t, c, hi, hl, h0, hn => by
    have e : row.drop i = [] := List.drop_eq_nil_of_le (by omega)
    rw [e, List.map_nil, List.foldl_nil]
    by_cases h2 : n = 2
    · refine Evt.step (fun k => ?_) (told_j1 n x s y t c (decide (x > y)) (by rw [decide_eq_true_iff]; exact ⟨fun h => ⟨h2, h⟩, fun h => h.2⟩))
      rw [gimbalref14_told.l0, if_neg (by omega), if_pos h2]
    · refine Evt.step (fun k => ?_) (told_j1 n x s y t c false ⟨(fun h => by cases h), (fun h => absurd h.1 h2)⟩)
      rw [gimbalref14_told.l0, if_neg (by omega), if_neg h2]
  | m + 1, row, i, n, x, s, y, t, c, hi, hl, h0, hn => by
    have hlt : i < row.length := by omega
    rw [rd_drop6 hlt, List.map_cons, List.foldl_cons]
    have un : ∀ k, gimbalref14_told.l0 (k + 1) row c n (i : Int) x s y t c = gimbalref14_told.l0 k row c (stp2 (n, x, s, y, t) (pr6 (rd_T56 row i))).1 ((i + 1 : Nat) : Int) (stp2 (n, x, s, y, t) (pr6 (rd_T56 row i))).2.1 (stp2 (n, x, s, y, t) (pr6 (rd_T56 row i))).2.2.1 (stp2 (n, x, s, y, t) (pr6 (rd_T56 row i))).2.2.2.1 (stp2 (n, x, s, y, t) (pr6 (rd_T56 row i))).2.2.2.2 c := by
      intro k
      rw [gimbalref14_told.l0, if_pos (by omega), if_pos (by omega), nat_step i (by omega), wrap64_in (n + 1) (by omega)]
      unfold stp2
      have e : (pr6 (rd_T56 row i)).2 = (rd_T56 row i).f1 := rfl
      rw [e]
      split
      · rfl
      · split <;> rfl
    have b : 0 ≤ (stp2 (n, x, s, y, t) (pr6 (rd_T56 row i))).1 ∧ (stp2 (n, x, s, y, t) (pr6 (rd_T56 row i))).1 ≤ ((i + 1 : Nat) : Int) := by
      unfold stp2
      split
      · simp only; omega
      · split <;> simp only <;> omega
    exact Evt.step un (told_l0 m row (i + 1) _ _ _ _ _ c (by omega) hl b.1 b.2)
theorem stp2_nz : ∀ (L : List (Int × Int)) st, L.foldl stp2 st = (nz L).foldl stp2 st
  | [], _ => rfl
  | q :: L, st => by
    unfold nz
    rw [List.filter_cons, List.foldl_cons]
    by_cases h : q.2 = 0
    · rw [if_neg (by simp [h]), show stp2 st q = st from if_pos h]
      exact stp2_nz L st
    · rw [if_pos (by simp [h]), List.foldl_cons]
      exact stp2_nz L _
theorem stp2_fst {st : Int × Int × Int × Int × Int} {q : Int × Int} (h : q.2 ≠ 0) : (stp2 st q).1 = st.1 + 1 := by
  unfold stp2
  rw [if_neg h]
  split <;> rfl
theorem stp2_many : ∀ (L : List (Int × Int)) st, st.1 > 2 → (L.foldl stp2 st).1 > 2
  | [], _, h => h
  | q :: L, st, h => by
    rw [List.foldl_cons]
    refine stp2_many L _ ?_
    by_cases hq : q.2 = 0
    · rw [show stp2 st q = st from if_pos hq]; exact h
    · rw [stp2_fst hq]; omega
theorem fin2_told (L : List (Int × Int)) (c : Int) : fin2 (L.foldl stp2 (0, 0, 0, 0, 0)) c = told (nz L) c := by
  rw [stp2_nz]
  have hz : ∀ p ∈ nz L, p.2 ≠ 0 := nz_ne
  match nz L, hz with
  | [], _ => rfl
  | [p], hz =>
    have h1 := hz p List.mem_cons_self
    simp only [List.foldl_cons, List.foldl_nil, stp2, if_neg h1]
    rfl
  | [p, q], hz =>
    have h1 := hz p List.mem_cons_self
    have h2 := hz q (List.mem_cons_of_mem _ List.mem_cons_self)
    have e : stp2 (stp2 (0, 0, 0, 0, 0) p) q = (2, p.1, p.2, q.1, q.2) := by
      unfold stp2
      rw [if_neg h1, if_neg h2]
      rfl
    rw [List.foldl_cons, List.foldl_cons, List.foldl_nil, e]
    have e2 : pick5 (2, p.1, p.2, q.1, q.2) c = mk2 p q c := by
      unfold pick5 mk2
      by_cases hh : p.1 > q.1
      · rw [if_pos ⟨rfl, hh⟩, if_pos hh]
      · rw [if_neg (fun h => hh h.2), if_neg hh]
    rw [fin2_few (show ¬ (2 : Int) > 2 by decide) e2]
    rfl
  | p :: q :: r :: M, hz =>
    have h1 := hz p List.mem_cons_self
    have h2 := hz q (List.mem_cons_of_mem _ List.mem_cons_self)
    have h3 := hz r (List.mem_cons_of_mem _ (List.mem_cons_of_mem _ List.mem_cons_self))
    rw [List.foldl_cons, List.foldl_cons, List.foldl_cons]
    rw [fin2_many (stp2_many M _ (by rw [stp2_fst h3, stp2_fst h2, stp2_fst h1]; decide))]
    rfl
theorem told_ev (row : List S56) (c : Int) (hl : row.length < 900) : Evt (fun k => gimbalref14_told.f k row c) (tup (told (nz (row.map pr6)) c)) := by
  have h := told_l0 row.length row 0 0 0 0 0 0 c (by omega) hl (by omega) (by omega)
  rw [List.drop_zero, fin2_told] at h
  exact h
theorem refadd_l0 (a b : L5) : ∀ (m : Nat) (P Q : List S56) (i : Nat), i + m = Q.length → P.length + m < 900 → Q.length < 900 →
    Evt (fun k => gimbalref14_Add.l0 k P Q (i : Int) a.x a.s a.y a.t a.c b.x b.s b.y b.t b.c) (tup (told (nz (putAll (P.map pr6) ((Q.drop i).map pr6))) (wrap64 (a.c + b.c))))
  | 0, P, Q, i, hi, hp, hq => by
    have e : Q.drop i = [] := List.drop_eq_nil_of_le (by omega)
    rw [e, List.map_nil]
    refine Evt.step (g := fun k => (gimbalref14_told.f k P (wrap64 (a.c + b.c))).bind fun bt263 => (some (bt263.1, bt263.2.1, bt263.2.2.1, bt263.2.2.2.1, bt263.2.2.2.2.1, bt263.2.2.2.2.2))) (fun k => by rw [gimbalref14_Add.l0, if_neg (by omega)]) ?_
    exact Evt.bind (told_ev P _ (by omega)) (Evt.of 0 (fun k => rfl))
  | m + 1, P, Q, i, hi, hp, hq => by
    have hlt : i < Q.length := by omega
    rw [rd_drop6 hlt, List.map_cons]
    have ih := refadd_l0 a b m (putS P (rd_T56 Q i)) Q (i + 1) (by omega) (by have := putS_length (rd_T56 Q i) P; omega) hq
    rw [putS_pr] at ih
    refine Evt.step (g := fun k => (gimbalref14_put.f k P (rd_T56 Q i).f0 (rd_T56 Q i).f1).bind fun t260 => gimbalref14_Add.l0 k t260 Q ((i + 1 : Nat) : Int) a.x a.s a.y a.t a.c b.x b.s b.y b.t b.c) (fun k => by rw [gimbalref14_Add.l0, if_pos (by omega), if_pos (by omega), nat_step i (by omega)]) ?_
    exact Evt.bind (put_ev P _ (by omega)) ih
theorem reffit_ev (a : L5) : Evt (fun k => gimbalref14_Fit.f k a.x a.s a.y a.t a.c) (decide (Fit a)) := Evt.of 2 (fun k => reffit_eq k _ _ _ _ _)
/-- The document's Add. -/
theorem refadd_eq (a b : L5) : Evt (fun k => gimbalref14_Add.f k a.x a.s a.y a.t a.c b.x b.s b.y b.t b.c) (tup (add5 a b)) := by
  have z0 : Evt (fun k => gimbalref14_Add.j0 k true a.x a.s a.y a.t a.c b.x b.s b.y b.t b.c) (tup (zero5, false)) := Evt.of 1 (fun k => by rw [gimbalref14_Add.j0, if_pos rfl]; rfl)
  unfold gimbalref14_Add.f
  refine Evt.bind (reffit_ev a) ?_
  by_cases ha : Fit a
  · refine Evt.congr (fun k => if_pos (decide_eq_true ha)) ?_
    refine Evt.bind (reffit_ev b) ?_
    by_cases hb : Fit b
    · have hc : (wrap64 (a.c + b.c)) = a.c + b.c := wrap64_in _ (by have := ha.1; have := ha.2.1; have := hb.1; have := hb.2.1; omega)
      have h := refadd_l0 a b ((parts b).map l56).length ((parts a).map l56) ((parts b).map l56) 0 (by omega) (by have := parts_length a; have := parts_length b; simp only [List.length_map]; omega) (by have := parts_length b; simp only [List.length_map]; omega)
      rw [List.drop_zero, pr6_l56, pr6_l56, hc] at h
      have h4 : add5 a b = told (nz (putAll (parts a) (parts b))) (a.c + b.c) := by unfold add5; rw [if_pos ⟨ha, hb⟩]
      rw [← h4] at h
      refine Evt.step (g := fun k => gimbalref14_Add.l0 k ((parts a).map l56) ((parts b).map l56) 0 a.x a.s a.y a.t a.c b.x b.s b.y b.t b.c) (fun k => ?_) h
      rw [gimbalref14_Add.j0, if_neg (by rw [decide_eq_true hb]; decide), refparts_eq, refparts_eq]
      rfl
    · rw [show add5 a b = (zero5, false) from by unfold add5; rw [if_neg (fun h => hb h.2)]]
      rw [decide_eq_false hb]
      exact z0
  · rw [show add5 a b = (zero5, false) from by unfold add5; rw [if_neg (fun h => ha h.1)]]
    exact Evt.congr (fun k => if_neg (by rw [decide_eq_false ha]; decide)) z0
theorem refneg_eq (a : L5) : Evt (fun k => gimbalref14_Neg.f k a.x a.s a.y a.t a.c) (tup (negr a)) := by
  unfold gimbalref14_Neg.f
  refine Evt.bind (reffit_ev a) ?_
  unfold negr
  by_cases h : Fit a
  · rw [if_pos h]
    obtain ⟨h1, h2, h3⟩ := neg_wraps h
    refine Evt.of 0 (fun k => ?_)
    rw [if_pos (decide_eq_true h), h1, h2, h3]
    rfl
  · rw [if_neg h]
    refine Evt.of 0 (fun k => ?_)
    rw [if_neg (by rw [decide_eq_false h]; decide)]
    rfl
theorem refsub_eq (a b : L5) : Evt (fun k => gimbalref14_Sub.f k a.x a.s a.y a.t a.c b.x b.s b.y b.t b.c) (tup (subr a b)) := by
  unfold gimbalref14_Sub.f
  refine Evt.bind (refneg_eq b) ?_
  unfold negr subr
  by_cases h : Fit b
  · rw [if_pos h, if_pos h]
    refine Evt.congr (fun k => if_pos rfl) ?_
    exact Evt.bind (refadd_eq a (neg5 b)) (Evt.of 0 (fun k => rfl))
  · rw [if_neg h, if_neg h]
    refine Evt.of 0 (fun k => ?_)
    exact if_neg (by decide)
end Go.Proofs.Ytllfopbchdahoaa.M
