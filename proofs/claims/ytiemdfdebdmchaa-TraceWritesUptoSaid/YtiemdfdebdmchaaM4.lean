/- A run's file, as the document writes it. Plain lists and numbers. -/
import Derived.Test.YtiemdfdebdmchaaM3
namespace Go.Proofs.Ytiemdfdebdmchaa.M
open Go.RowKit Go.Proofs.Ytiemdfdebdmchaa.P Go.Proofs.YtiemdfdebdmchaaW.PrintWords Go.Proofs.YtiemdfdebdmchaaW.PrintLast
theorem wrap_in64 (a : Int) : -9223372036854775808 ≤ wrap64 a ∧ wrap64 a < 9223372036854775808 := by unfold wrap64; omega
theorem rsig_ev (a : Int) : Evt (fun k => gimbalref33_signed.f k (wrap64 a)) (numb 9 (sgn (wrap64 a))) := refsigned_ev _ (wrap_in64 a).1 (wrap_in64 a).2
/-- Rows, from a place on. -/
def rowN (f : Nat → Int × Int) : Nat → Nat → List Int → List Int
  | 0, _, b => b
  | m + 1, n, b => rowN f m (n + 1) (b ++ numb 9 (sgn (wrap64 ((f n).1 - (f n).2))))
theorem rowN_eq (f : Nat → Int × Int) : ∀ m n b, rowN f m n b = rowOf ((List.range' n m).map f) b
  | 0, n, b => rfl
  | m + 1, n, b => by
    rw [rowN, rowN_eq f m (n + 1), List.range'_succ, List.map_cons]
    rfl
theorem rowN_upto (f : Nat → Int × Int) (m : Nat) (b : List Int) : rowN f m 0 b = rowOf (upto f m) b := by
  rw [rowN_eq, upto, List.range_eq_range']
theorem numb_len9 (x : Int) : (numb 9 x).length ≤ 10 := numb_length 9 x
theorem refrow_true (l : List Int) (hl : l.length ≤ 9223372036854775807) : ∀ (m n : Nat) (b : List Int), n + m = l.length → b.length + 10 * m + 20 < 140737488355328 →
    Evt (fun k => gimbalref33_row.l0 k l [] true b l (l.length : Int) (n : Int)) (rowN (fun j => (rd l (j : Int), bef l j)) m n b)
  | 0, n, b, hn, hb => by
    refine Evt.of 1 (fun k => ?_)
    rw [gimbalref33_row.l0, if_neg (by omega)]
    rfl
  | m + 1, n, b, hn, hb => by
    have h1 : n < l.length := by omega
    have h9 := numb_len9 (sgn (wrap64 (rd l (n : Int) - bef l n)))
    have ih := refrow_true l hl m (n + 1) (b ++ numb 9 (sgn (wrap64 (rd l (n : Int) - bef l n)))) (by omega) (by rw [List.length_append]; omega)
    rw [← nat_step n (by omega)] at ih
    rw [rowN]
    refine Evt.step (fun k => by rw [gimbalref33_row.l0, if_pos (by omega), if_pos (by omega), if_pos (by omega), if_pos rfl]) ?_
    by_cases h0 : n = 0
    · subst h0
      have e : bef l 0 = 0 := rfl
      rw [e] at ih h9 ⊢
      refine Evt.step (fun k => by rw [gimbalref33_row.j1, if_neg (by simp), if_pos rfl]) ?_
      refine Evt.bind (rsig_ev _) ?_
      exact Evt.congr (fun k => if_pos (by omega)) ih
    · have e : bef l n = rd l (wrap64 ((n : Int) - 1)) := by
        rw [wrap64_in _ (by omega)]
        unfold bef
        rw [if_neg h0]
        congr 1
        omega
      rw [e] at ih h9 ⊢
      have e1 : wrap64 ((n : Int) - 1) = (n : Int) - 1 := wrap64_in _ (by omega)
      refine Evt.step (fun k => by rw [gimbalref33_row.j1, if_pos (decide_eq_true (by omega)), if_pos (by omega), if_pos (by omega), if_pos rfl]) ?_
      refine Evt.bind (rsig_ev _) ?_
      exact Evt.congr (fun k => if_pos (by omega)) ih
theorem refrow_false (l o : List Int) (hl : l.length ≤ 9223372036854775807) : ∀ (m n : Nat) (b : List Int), n + m = l.length → b.length + 10 * m + 20 < 140737488355328 →
    Evt (fun k => gimbalref33_row.l0 k l o false b l (l.length : Int) (n : Int)) (rowN (fun j => (rd l (j : Int), atS o j)) m n b)
  | 0, n, b, hn, hb => by
    refine Evt.of 1 (fun k => ?_)
    rw [gimbalref33_row.l0, if_neg (by omega)]
    rfl
  | m + 1, n, b, hn, hb => by
    have h1 : n < l.length := by omega
    have h9 := numb_len9 (sgn (wrap64 (rd l (n : Int) - atS o n)))
    have ih := refrow_false l o hl m (n + 1) (b ++ numb 9 (sgn (wrap64 (rd l (n : Int) - atS o n)))) (by omega) (by rw [List.length_append]; omega)
    rw [← nat_step n (by omega)] at ih
    rw [rowN]
    refine Evt.step (fun k => by rw [gimbalref33_row.l0, if_pos (by omega), if_pos (by omega), if_pos (by omega), if_neg (by simp)]) ?_
    by_cases h0 : n < o.length
    · have e : atS o n = rd o (n : Int) := if_pos h0
      rw [e] at ih h9 ⊢
      refine Evt.step (fun k => by rw [gimbalref33_row.j1, if_neg (by simp), if_neg (by simp), if_pos (by omega), if_pos (by omega)]) ?_
      refine Evt.bind (rsig_ev _) ?_
      exact Evt.congr (fun k => if_pos (by omega)) ih
    · have e : atS o n = 0 := if_neg h0
      rw [e] at ih h9 ⊢
      refine Evt.step (fun k => by rw [gimbalref33_row.j1, if_neg (by simp), if_neg (by simp), if_neg (by omega)]) ?_
      refine Evt.bind (rsig_ev _) ?_
      exact Evt.congr (fun k => if_pos (by omega)) ih
theorem refrowA_ev (l : List Int) (hb : 10 * l.length + 100 < 140737488355328) : Evt (fun k => gimbalref33_row.f k l [] true) (rowA [] l) := by
  have h9 := numb_len9 (IntKind.u64.wrap (l.length : Int))
  unfold gimbalref33_row.f
  refine Evt.bind (count_ev _) ?_
  have h := refrow_true l (by omega) l.length 0 (numb 9 (IntKind.u64.wrap (l.length : Int))) (by omega) (by omega)
  rw [rowN_upto] at h
  exact h
theorem refrowB_ev (l o : List Int) (hb : 10 * l.length + 100 < 140737488355328) : Evt (fun k => gimbalref33_row.f k l o false) (rowB [] l o) := by
  have h9 := numb_len9 (IntKind.u64.wrap (l.length : Int))
  unfold gimbalref33_row.f
  refine Evt.bind (count_ev _) ?_
  have h := refrow_false l o (by omega) l.length 0 (numb 9 (IntKind.u64.wrap (l.length : Int))) (by omega) (by omega)
  rw [rowN_upto] at h
  exact h
theorem rowA0_len (l : List Int) : (rowA [] l).length ≤ 10 * l.length + 10 := by have := rowA_len [] l; simpa using this
theorem rowB0_len (l o : List Int) : (rowB [] l o).length ≤ 10 * l.length + 10 := by have := rowB_len [] l o; simpa using this
theorem file_l2 : ∀ (m n : Nat) (x : List (List Int)) (o b : List Int), n + m = x.length → x.length ≤ 9223372036854775807 → b.length + 10 * tot (x.drop n) + 100 < 140737488355328 →
    Evt (fun k => gimbalref33_file.l2 k b o x (x.length : Int) (n : Int)) (closed (flatM (x.drop n) o b))
  | 0, n, x, o, b, hn, hx, hb => by
    rw [List.drop_eq_nil_of_le (by omega)]
    refine Evt.step (fun k => by rw [gimbalref33_file.l2, if_neg (by omega)]) ?_
    refine Evt.bind (refsum_ev b (by omega)) ?_
    refine Evt.congr (fun k => if_pos (by simp; omega)) ?_
    exact Evt.of 0 (fun k => rfl)
  | m + 1, n, x, o, b, hn, hx, hb => by
    have h1 : n < x.length := by omega
    rw [tot_drop h1] at hb ⊢
    rw [tot] at hb
    have hl := rowB_len b x[n] o
    have hl0 := rowB0_len x[n] o
    refine Evt.step (fun k => by rw [gimbalref33_file.l2, if_pos (by omega), if_pos (by omega), if_pos (by omega), rdL_get h1, nat_step n (by omega)]) ?_
    refine Evt.bind (refrowB_ev x[n] o (by omega)) ?_
    refine Evt.congr (fun k => by rw [if_pos (by omega), rowB_app]) ?_
    exact file_l2 m (n + 1) x x[n] (rowB b x[n] o) (by omega) hx (by omega)
theorem file_l1 (ma : List (List Int)) (hma : ma.length ≤ 9223372036854775807) (c0 : Int) (c1 : List Int) (c2 c3 c4 c5 c6 : Int) (c7 : List Int) (c8 : List (List Int)) : ∀ (m n : Nat) (x : List (List Int)) (b : List Int), n + m = x.length → x.length ≤ 9223372036854775807 → b.length + 10 * tot (x.drop n) + 10 * tot ma + 200 < 140737488355328 →
    Evt (fun k => gimbalref33_file.l1 k b x (x.length : Int) (n : Int) c0 c1 c2 c3 c4 c5 c6 c7 c8 ma) (closed (flatM ma [] (encNum (flatA (x.drop n) b) (ma.length : Int))))
  | 0, n, x, b, hn, hx, hb => by
    rw [List.drop_eq_nil_of_le (by omega)] at hb ⊢
    rw [tot] at hb
    have hl := encNum_len b (ma.length : Int)
    have h9 := numb_len9 (IntKind.u64.wrap (ma.length : Int))
    refine Evt.step (fun k => by rw [gimbalref33_file.l1, if_neg (by omega)]) ?_
    refine Evt.bind (count_ev (ma.length : Int)) ?_
    refine Evt.congr (fun k => if_pos (by omega)) ?_
    exact file_l2 ma.length 0 ma [] (encNum b (ma.length : Int)) (by omega) hma (by simp only [List.drop_zero]; omega)
  | m + 1, n, x, b, hn, hx, hb => by
    have h1 : n < x.length := by omega
    rw [tot_drop h1] at hb ⊢
    rw [tot] at hb
    have hl := rowA_len b x[n]
    have hl0 := rowA0_len x[n]
    refine Evt.step (fun k => by rw [gimbalref33_file.l1, if_pos (by omega), if_pos (by omega), if_pos (by omega), rdL_get h1, nat_step n (by omega)]) ?_
    refine Evt.bind (refrowA_ev x[n] (by omega)) ?_
    refine Evt.congr (fun k => by rw [if_pos (by omega), rowA_app]) ?_
    exact file_l1 ma hma c0 c1 c2 c3 c4 c5 c6 c7 c8 m (n + 1) x (rowA b x[n]) (by omega) hx (by omega)
theorem file_l0 (fu : Int) (sr : List Int) (e si ki ti re : Int) (sc : List Int) (ar ma : List (List Int)) (b : List Int) (har : ar.length ≤ 9223372036854775807) (hma : ma.length ≤ 9223372036854775807) (hb : b.length + 10 * sc.length + 10 * tot ar + 10 * tot ma + 400 < 140737488355328) :
    Evt (fun k => gimbalref33_file.l0 k b [IntKind.u64.wrap e, IntKind.u64.wrap si, IntKind.u64.wrap ki, IntKind.u64.wrap ti, IntKind.u64.wrap re] 5 0 fu sr e si ki ti re sc ar ma) (closed (tail (encNum (encNum (encNum (encNum (encNum b e) si) ki) ti) re) sc ar ma)) := by
  have l1 := encNum_len b e
  have l2 := encNum_len (encNum b e) si
  have l3 := encNum_len (encNum (encNum b e) si) ki
  have l4 := encNum_len (encNum (encNum (encNum b e) si) ki) ti
  have l5 := encNum_len (encNum (encNum (encNum (encNum b e) si) ki) ti) re
  have l6 := rowA_len (encNum (encNum (encNum (encNum (encNum b e) si) ki) ti) re) sc
  have l60 := rowA0_len sc
  have l7 := encNum_len (rowA (encNum (encNum (encNum (encNum (encNum b e) si) ki) ti) re) sc) (ar.length : Int)
  have n1 := numb_len9 (IntKind.u64.wrap e)
  have n2 := numb_len9 (IntKind.u64.wrap si)
  have n3 := numb_len9 (IntKind.u64.wrap ki)
  have n4 := numb_len9 (IntKind.u64.wrap ti)
  have n5 := numb_len9 (IntKind.u64.wrap re)
  have n6 := numb_len9 (IntKind.u64.wrap (ar.length : Int))
  refine Evt.step (g := fun k => (gimbalref27_Number.f k (IntKind.u64.wrap e)).bind fun t257 => if (b : List Int).length + t257.length < 140737488355328 then gimbalref33_file.l0 k (b ++ t257) [IntKind.u64.wrap e, IntKind.u64.wrap si, IntKind.u64.wrap ki, IntKind.u64.wrap ti, IntKind.u64.wrap re] 5 1 fu sr e si ki ti re sc ar ma else none) (fun k => by rw [gimbalref33_file.l0, if_pos (by decide), if_pos (by decide), if_pos (by simp only [List.length_cons, List.length_nil]; decide), w01]; rfl) ?_
  refine Evt.bind (refnum_ev _ (u64_in e).1 (u64_in e).2) ?_
  refine Evt.congr (fun k => if_pos (by omega)) ?_
  refine Evt.step (g := fun k => (gimbalref27_Number.f k (IntKind.u64.wrap si)).bind fun t257 => if ((encNum b e) : List Int).length + t257.length < 140737488355328 then gimbalref33_file.l0 k ((encNum b e) ++ t257) [IntKind.u64.wrap e, IntKind.u64.wrap si, IntKind.u64.wrap ki, IntKind.u64.wrap ti, IntKind.u64.wrap re] 5 2 fu sr e si ki ti re sc ar ma else none) (fun k => by rw [gimbalref33_file.l0, if_pos (by decide), if_pos (by decide), if_pos (by simp only [List.length_cons, List.length_nil]; decide), w12]; rfl) ?_
  refine Evt.bind (refnum_ev _ (u64_in si).1 (u64_in si).2) ?_
  refine Evt.congr (fun k => if_pos (by omega)) ?_
  refine Evt.step (g := fun k => (gimbalref27_Number.f k (IntKind.u64.wrap ki)).bind fun t257 => if ((encNum (encNum b e) si) : List Int).length + t257.length < 140737488355328 then gimbalref33_file.l0 k ((encNum (encNum b e) si) ++ t257) [IntKind.u64.wrap e, IntKind.u64.wrap si, IntKind.u64.wrap ki, IntKind.u64.wrap ti, IntKind.u64.wrap re] 5 3 fu sr e si ki ti re sc ar ma else none) (fun k => by rw [gimbalref33_file.l0, if_pos (by decide), if_pos (by decide), if_pos (by simp only [List.length_cons, List.length_nil]; decide), w23]; rfl) ?_
  refine Evt.bind (refnum_ev _ (u64_in ki).1 (u64_in ki).2) ?_
  refine Evt.congr (fun k => if_pos (by omega)) ?_
  refine Evt.step (g := fun k => (gimbalref27_Number.f k (IntKind.u64.wrap ti)).bind fun t257 => if ((encNum (encNum (encNum b e) si) ki) : List Int).length + t257.length < 140737488355328 then gimbalref33_file.l0 k ((encNum (encNum (encNum b e) si) ki) ++ t257) [IntKind.u64.wrap e, IntKind.u64.wrap si, IntKind.u64.wrap ki, IntKind.u64.wrap ti, IntKind.u64.wrap re] 5 4 fu sr e si ki ti re sc ar ma else none) (fun k => by rw [gimbalref33_file.l0, if_pos (by decide), if_pos (by decide), if_pos (by simp only [List.length_cons, List.length_nil]; decide), w34]; rfl) ?_
  refine Evt.bind (refnum_ev _ (u64_in ti).1 (u64_in ti).2) ?_
  refine Evt.congr (fun k => if_pos (by omega)) ?_
  refine Evt.step (g := fun k => (gimbalref27_Number.f k (IntKind.u64.wrap re)).bind fun t257 => if ((encNum (encNum (encNum (encNum b e) si) ki) ti) : List Int).length + t257.length < 140737488355328 then gimbalref33_file.l0 k ((encNum (encNum (encNum (encNum b e) si) ki) ti) ++ t257) [IntKind.u64.wrap e, IntKind.u64.wrap si, IntKind.u64.wrap ki, IntKind.u64.wrap ti, IntKind.u64.wrap re] 5 5 fu sr e si ki ti re sc ar ma else none) (fun k => by rw [gimbalref33_file.l0, if_pos (by decide), if_pos (by decide), if_pos (by simp only [List.length_cons, List.length_nil]; decide), w45]; rfl) ?_
  refine Evt.bind (refnum_ev _ (u64_in re).1 (u64_in re).2) ?_
  refine Evt.congr (fun k => if_pos (by omega)) ?_
  refine Evt.step (g := fun k => (gimbalref33_row.f k sc [] true).bind fun t263 => if ((encNum (encNum (encNum (encNum (encNum b e) si) ki) ti) re) : List Int).length + t263.length < 140737488355328 then (some ((encNum (encNum (encNum (encNum (encNum b e) si) ki) ti) re) ++ t263)).bind fun y266 => (gimbalref33_count.f k (ar.length : Int)).bind fun t269 => if y266.length + t269.length < 140737488355328 then gimbalref33_file.l1 k (y266 ++ t269) ar (ar.length : Int) 0 fu sr e si ki ti re sc ar ma else none else none) (fun k => by rw [gimbalref33_file.l0, if_neg (by decide)]; rfl) ?_
  refine Evt.bind (refrowA_ev sc (by omega)) ?_
  refine Evt.congr (fun k => by rw [if_pos (by omega), rowA_app, Option.bind_some]) ?_
  refine Evt.bind (count_ev (ar.length : Int)) ?_
  refine Evt.congr (fun k => if_pos (by omega)) ?_
  exact file_l1 ma hma fu sr e si ki ti re sc ar ar.length 0 ar (encNum (rowA (encNum (encNum (encNum (encNum (encNum b e) si) ki) ti) re) sc) (ar.length : Int)) (by omega) har (by simp only [List.drop_zero]; omega)
theorem file_ev (fu : Int) (sr : List Int) (e si ki ti re : Int) (sc : List Int) (ar ma : List (List Int)) (h0 : -9223372036854775808 ≤ fu) (h1 : fu < 9223372036854775808) (har : ar.length ≤ 9223372036854775807) (hma : ma.length ≤ 9223372036854775807) (hb : 10 * sr.length + 10 * sc.length + 10 * tot ar + 10 * tot ma + 500 < 140737488355328) :
    Evt (fun k => gimbalref33_file.f k fu sr e si ki ti re sc ar ma) (file fu sr e si ki ti re sc ar ma) := by
  have hs := start_len fu sr
  have h9 := numb_len9 (sgn fu)
  have l0 := rowA0_len sr
  unfold gimbalref33_file.f
  refine Evt.congr (fun k => by simp only [Option.bind_some]; rw [if_pos (by decide)]) ?_
  refine Evt.bind (refsigned_ev fu h0 h1) ?_
  refine Evt.congr (fun k => if_pos (by simp only [List.length_append, List.length_cons, List.length_nil]; omega)) ?_
  refine Evt.bind (refrowA_ev sr (by omega)) ?_
  refine Evt.congr (fun k => by rw [if_pos (by simp only [List.length_append, List.length_cons, List.length_nil]; omega), rowA_app]) ?_
  exact file_l0 fu sr e si ki ti re sc ar ma (start fu sr) har hma (by omega)
theorem reffit_eq (fu : Int) (sr : List Int) (e si ki ti re : Int) (sc : List Int) (ar ma : List (List Int)) : gimbalref33_Fit.f fu sr e si ki ti re sc ar ma = some (decide (Fit e si ki ti re ma)) := fit_eq fu sr e si ki ti re sc ar ma
theorem refencode_ev (fu : Int) (sr : List Int) (e si ki ti re : Int) (sc : List Int) (ar ma : List (List Int)) (h0 : -9223372036854775808 ≤ fu) (h1 : fu < 9223372036854775808) (har : ar.length ≤ 9223372036854775807) (hma : ma.length ≤ 9223372036854775807) (hb : 10 * sr.length + 10 * sc.length + 10 * tot ar + 10 * tot ma + 500 < 140737488355328) :
    Evt (fun k => gimbalref33_Encode.f k fu sr e si ki ti re sc ar ma) (if Fit e si ki ti re ma then (file fu sr e si ki ti re sc ar ma, 0) else ([], 333)) := by
  unfold gimbalref33_Encode.f
  refine Evt.bind (Evt.of 0 (fun k => reffit_eq fu sr e si ki ti re sc ar ma)) ?_
  by_cases hf : Fit e si ki ti re ma
  · rw [if_pos hf]
    refine Evt.congr (fun k => if_pos (decide_eq_true hf)) ?_
    exact Evt.bind (file_ev fu sr e si ki ti re sc ar ma h0 h1 har hma hb) (Evt.of 0 (fun k => rfl))
  · rw [if_neg hf]
    refine Evt.congr (fun k => if_neg (by rw [decide_eq_false hf]; simp)) ?_
    exact Evt.of 0 (fun k => rfl)
end Go.Proofs.Ytiemdfdebdmchaa.M
