/- What the law's proof needs of M3. -/
import Derived.Test.YtiemdfdebdmchaaTrSM2
import Derived.Test.YtiemdfdebdmchaaTrSU2
import Derived.Test.YtiemdfdebdmchaaTrSU
import Derived.Test.YtiemdfdebdmchaaTrSPx0
import Derived.Test.YtiemdfdebdmchaaTrSPx5
import Derived.Test.YtiemdfdebdmchaaTrSPx6
import Derived.Test.YtiemdfdebdmchaaTrSS0
namespace Go.Proofs.Ytiemdfdebdmchaa.M
open Go.RowKit Go.Proofs.Ytiemdfdebdmchaa.P Go.Proofs.YtiemdfdebdmchaaW.PrintWords Go.Proofs.YtiemdfdebdmchaaW.PrintLast
theorem rowOf_app : ∀ (ps : List (Int × Int)) (a b : List Int), rowOf ps (a ++ b) = a ++ rowOf ps b
  | [], a, b => rfl
  | p :: ps, a, b => by
    have e : ∀ c, rowOf (p :: ps) c = rowOf ps (c ++ numb 9 (sgn (wrap64 (p.1 - p.2)))) := fun _ => rfl
    rw [e, e, List.append_assoc, rowOf_app ps]
def encNum (b : List Int) (x : Int) : List Int := b ++ numb 9 (IntKind.u64.wrap x)
def rowA (b l : List Int) : List Int := rowOf (stepsOf l) (encNum b (l.length : Int))
def rowB (b l o : List Int) : List Int := rowOf (besideOf l o) (encNum b (l.length : Int))
def flatA (rs : List (List Int)) (b : List Int) : List Int := rs.foldl rowA b
def flatM : List (List Int) → List Int → List Int → List Int
  | [], _, b => b
  | r :: rs, o, b => flatM rs r (rowB b r o)
def tot : List (List Int) → Nat
  | [] => 0
  | r :: rs => r.length + 1 + tot rs
theorem encNum_app (a b : List Int) (x : Int) : encNum (a ++ b) x = a ++ encNum b x := by unfold encNum; rw [List.append_assoc]
theorem rowA_app (a l : List Int) : a ++ rowA [] l = rowA a l := by
  unfold rowA
  rw [← rowOf_app, ← encNum_app, List.append_nil]
theorem rowB_app (a l o : List Int) : a ++ rowB [] l o = rowB a l o := by
  unfold rowB
  rw [← rowOf_app, ← encNum_app, List.append_nil]
theorem encNum_len (b : List Int) (x : Int) : (encNum b x).length ≤ b.length + 10 := by
  have := numb_length 9 (IntKind.u64.wrap x)
  unfold encNum
  rw [List.length_append]
  omega
theorem rowA_len (b l : List Int) : (rowA b l).length ≤ b.length + 10 * l.length + 10 := by
  have h := rowOf_length (stepsOf l) (encNum b (l.length : Int))
  have h2 := encNum_len b (l.length : Int)
  rw [show (stepsOf l).length = l.length from upto_length _ _] at h
  unfold rowA
  omega
theorem rowB_len (b l o : List Int) : (rowB b l o).length ≤ b.length + 10 * l.length + 10 := by
  have h := rowOf_length (besideOf l o) (encNum b (l.length : Int))
  have h2 := encNum_len b (l.length : Int)
  rw [show (besideOf l o).length = l.length from upto_length _ _] at h
  unfold rowB
  omega
theorem flatA_len : ∀ rs b, (flatA rs b).length ≤ b.length + 10 * tot rs
  | [], b => Nat.le_refl _
  | r :: rs, b => by
    have h := flatA_len rs (rowA b r)
    have h2 := rowA_len b r
    have e : flatA (r :: rs) b = flatA rs (rowA b r) := rfl
    rw [e, tot]
    omega
theorem flatM_len : ∀ rs o b, (flatM rs o b).length ≤ b.length + 10 * tot rs
  | [], o, b => Nat.le_refl _
  | r :: rs, o, b => by
    have h := flatM_len rs r (rowB b r o)
    have h2 := rowB_len b r o
    rw [flatM, tot]
    omega
theorem tot_drop {x : List (List Int)} {n : Nat} (h : n < x.length) : x.drop n = x[n] :: x.drop (n + 1) := List.drop_eq_getElem_cons h
theorem rdL_get {x : List (List Int)} {n : Nat} (h : n < x.length) : rd_L1 x (n : Int) = x[n] := by
  unfold rd_L1
  rw [Int.toNat_natCast, List.getD_eq_getElem?_getD, List.getElem?_eq_getElem h, Option.getD_some]
theorem num_ev (b : List Int) (a : Int) (hb : b.length + 10 < 140737488355328) : Evt (fun k => trace_number.f k b (IntKind.u64.wrap a)) (encNum b a) :=
  Evt.of 10 (fun k => number_some (k + 10) b a (by omega) hb)
theorem signedF_ev (b : List Int) (a : Int) (hb : b.length + 10 < 140737488355328) : Evt (fun k => trace_signedF.f k b a) (b ++ numb 9 (sgn a)) :=
  Evt.of 10 (fun k => signed_some (k + 10) b a (by omega) hb)
theorem rowsteps_ev (b l : List Int) (hb : b.length + 10 * l.length + 20 < 140737488355328) : Evt (fun k => trace_rowsteps.f k b (l.length : Int) l) (rowA b l) :=
  Evt.of 10 (fun k => if_pos ⟨by omega, hb⟩)
theorem rowbeside_ev (b l o : List Int) (hb : b.length + 10 * l.length + 20 < 140737488355328) : Evt (fun k => trace_rowbeside.f k b (l.length : Int) l o) (rowB b l o) :=
  Evt.of 10 (fun k => if_pos ⟨by omega, hb⟩)
def sumBytes (s : Int) : List Int := [s % 256, (s / 256) % 256, (s / 65536) % 256, (s / 16777216) % 256]
def closed (b : List Int) : List Int := b ++ sumBytes (sumOf b)
theorem enc_l2 : ∀ (m n : Nat) (x : List (List Int)) (o b : List Int), n + m = x.length → x.length ≤ 9223372036854775807 → b.length + 10 * tot (x.drop n) + 100 < 140737488355328 →
    Evt (fun k => trace_Encode.l2 k b o x (x.length : Int) (n : Int)) (closed (flatM (x.drop n) o b), 0)
  | 0, n, x, o, b, hn, hx, hb => by
    rw [List.drop_eq_nil_of_le (by omega)]
    refine Evt.step (fun k => by rw [trace_Encode.l2, if_neg (by omega)]) ?_
    refine Evt.bind (code_ev b (by omega)) ?_
    refine Evt.congr (fun k => if_pos (by simp; omega)) ?_
    exact Evt.of 0 (fun k => rfl)
  | m + 1, n, x, o, b, hn, hx, hb => by
    have h1 : n < x.length := by omega
    rw [tot_drop h1] at hb ⊢
    rw [tot] at hb
    have hl := rowB_len b x[n] o
    refine Evt.step (fun k => by rw [trace_Encode.l2, if_pos (by omega), if_pos (by omega), if_pos (by omega), rdL_get h1, nat_step n (by omega)]) ?_
    refine Evt.bind (rowbeside_ev b x[n] o (by omega)) ?_
    exact enc_l2 m (n + 1) x x[n] (rowB b x[n] o) (by omega) hx (by omega)
theorem enc_l1 (ma : List (List Int)) (hma : ma.length ≤ 9223372036854775807) (c0 c1 c2 c3 c4 : Int) (c5 : List Int) (c6 : List (List Int)) : ∀ (m n : Nat) (x : List (List Int)) (b : List Int), n + m = x.length → x.length ≤ 9223372036854775807 → b.length + 10 * tot (x.drop n) + 10 * tot ma + 200 < 140737488355328 →
    Evt (fun k => trace_Encode.l1 k b x (x.length : Int) (n : Int) c0 c1 c2 c3 c4 c5 c6 ma) (closed (flatM ma [] (encNum (flatA (x.drop n) b) (ma.length : Int))), 0)
  | 0, n, x, b, hn, hx, hb => by
    rw [List.drop_eq_nil_of_le (by omega)] at hb ⊢
    rw [tot] at hb
    have hl := encNum_len b (ma.length : Int)
    refine Evt.step (fun k => by rw [trace_Encode.l1, if_neg (by omega)]) ?_
    refine Evt.bind (num_ev b (ma.length : Int) (by omega)) ?_
    exact enc_l2 ma.length 0 ma [] (encNum b (ma.length : Int)) (by omega) hma (by simp only [List.drop_zero]; omega)
  | m + 1, n, x, b, hn, hx, hb => by
    have h1 : n < x.length := by omega
    rw [tot_drop h1] at hb ⊢
    rw [tot] at hb
    have hl := rowA_len b x[n]
    refine Evt.step (fun k => by rw [trace_Encode.l1, if_pos (by omega), if_pos (by omega), if_pos (by omega), rdL_get h1, nat_step n (by omega)]) ?_
    refine Evt.bind (rowsteps_ev b x[n] (by omega)) ?_
    exact enc_l1 ma hma c0 c1 c2 c3 c4 c5 c6 m (n + 1) x (rowA b x[n]) (by omega) hx (by omega)
theorem w01 : wrap64 (0 + 1) = 1 := nat_step 0 (by decide)
theorem w12 : wrap64 (1 + 1) = 2 := nat_step 1 (by decide)
theorem w23 : wrap64 (2 + 1) = 3 := nat_step 2 (by decide)
theorem w34 : wrap64 (3 + 1) = 4 := nat_step 3 (by decide)
/-- What stands behind the numbers. -/
def tail (b sc : List Int) (ar ma : List (List Int)) : List Int := flatM ma [] (encNum (flatA ar (encNum (rowA b sc) (ar.length : Int))) (ma.length : Int))
theorem enc_l0 (e si ki ti re : Int) (sc : List Int) (ar ma : List (List Int)) (b : List Int) (har : ar.length ≤ 9223372036854775807) (hma : ma.length ≤ 9223372036854775807) (hb : b.length + 10 * sc.length + 10 * tot ar + 10 * tot ma + 400 < 140737488355328) :
    Evt (fun k => trace_Encode.l0 k b [e, si, ki] 3 0 e si ki ti re sc ar ma) (closed (tail (encNum (encNum (encNum (encNum (encNum b e) si) ki) ti) re) sc ar ma), 0) := by
  have l1 := encNum_len b e
  have l2 := encNum_len (encNum b e) si
  have l3 := encNum_len (encNum (encNum b e) si) ki
  have l4 := encNum_len (encNum (encNum (encNum b e) si) ki) ti
  have l5 := encNum_len (encNum (encNum (encNum (encNum b e) si) ki) ti) re
  have l6 := rowA_len (encNum (encNum (encNum (encNum (encNum b e) si) ki) ti) re) sc
  have l7 := encNum_len (rowA (encNum (encNum (encNum (encNum (encNum b e) si) ki) ti) re) sc) (ar.length : Int)
  refine Evt.step (g := fun k => (trace_number.f k b (IntKind.u64.wrap e)).bind fun t132 => trace_Encode.l0 k t132 [e, si, ki] 3 1 e si ki ti re sc ar ma) (fun k => by rw [trace_Encode.l0, if_pos (by decide), if_pos (by decide), if_pos (by simp only [List.length_cons, List.length_nil]; decide), w01]; rfl) ?_
  refine Evt.bind (num_ev b e (by omega)) ?_
  refine Evt.step (g := fun k => (trace_number.f k (encNum b e) (IntKind.u64.wrap si)).bind fun t132 => trace_Encode.l0 k t132 [e, si, ki] 3 2 e si ki ti re sc ar ma) (fun k => by rw [trace_Encode.l0, if_pos (by decide), if_pos (by decide), if_pos (by simp only [List.length_cons, List.length_nil]; decide), w12]; rfl) ?_
  refine Evt.bind (num_ev (encNum b e) si (by omega)) ?_
  refine Evt.step (g := fun k => (trace_number.f k (encNum (encNum b e) si) (IntKind.u64.wrap ki)).bind fun t132 => trace_Encode.l0 k t132 [e, si, ki] 3 3 e si ki ti re sc ar ma) (fun k => by rw [trace_Encode.l0, if_pos (by decide), if_pos (by decide), if_pos (by simp only [List.length_cons, List.length_nil]; decide), w23]; rfl) ?_
  refine Evt.bind (num_ev (encNum (encNum b e) si) ki (by omega)) ?_
  refine Evt.step (fun k => by rw [trace_Encode.l0, if_neg (by decide)]) ?_
  refine Evt.bind (num_ev _ ti (by omega)) ?_
  refine Evt.bind (num_ev _ re (by omega)) ?_
  refine Evt.bind (rowsteps_ev _ sc (by omega)) ?_
  refine Evt.bind (num_ev _ (ar.length : Int) (by omega)) ?_
  exact enc_l1 ma hma e si ki ti re sc ar ar.length 0 ar _ (by omega) har (by simp only [List.drop_zero]; omega)
abbrev Fit (e si ki ti re : Int) (ma : List (List Int)) : Prop := 1 ≤ e ∧ e ≤ 5 ∧ 0 ≤ si ∧ 0 ≤ ki ∧ 0 ≤ ti ∧ 0 ≤ re ∧ ma.length ≤ 64
def start (fu : Int) (sr : List Int) : List Int := rowA ([71, 84, 82, 67, 1] ++ numb 9 (sgn fu)) sr
def file (fu : Int) (sr : List Int) (e si ki ti re : Int) (sc : List Int) (ar ma : List (List Int)) : List Int := closed (tail (encNum (encNum (encNum (encNum (encNum (start fu sr) e) si) ki) ti) re) sc ar ma)
theorem fit_eq (fu : Int) (sr : List Int) (e si ki ti re : Int) (sc : List Int) (ar ma : List (List Int)) : trace_fit.f fu sr e si ki ti re sc ar ma = some (decide (Fit e si ki ti re ma)) := by
  unfold trace_fit.f
  by_cases h1 : e ≥ 1
  · by_cases h2 : e ≤ 5
    · by_cases h3 : si ≥ 0
      · by_cases h4 : ki ≥ 0
        · by_cases h5 : ti ≥ 0
          · by_cases h6 : re ≥ 0
            · rw [if_pos h1, if_pos h2, if_pos h3, if_pos h4, if_pos h5, if_pos h6]
              exact congrArg some (decide_eq_decide.2 ⟨fun h => ⟨h1, h2, h3, h4, h5, h6, by omega⟩, fun h => by have := h.2.2.2.2.2.2; omega⟩)
            · rw [if_pos h1, if_pos h2, if_pos h3, if_pos h4, if_pos h5, if_neg h6, decide_eq_false (fun h => h6 h.2.2.2.2.2.1)]
          · rw [if_pos h1, if_pos h2, if_pos h3, if_pos h4, if_neg h5, decide_eq_false (fun h => h5 h.2.2.2.2.1)]
        · rw [if_pos h1, if_pos h2, if_pos h3, if_neg h4, decide_eq_false (fun h => h4 h.2.2.2.1)]
      · rw [if_pos h1, if_pos h2, if_neg h3, decide_eq_false (fun h => h3 h.2.2.1)]
    · rw [if_pos h1, if_neg h2, decide_eq_false (fun h => h2 h.2.1)]
  · rw [if_neg h1, decide_eq_false (fun h => h1 h.1)]
theorem start_len (fu : Int) (sr : List Int) : (start fu sr).length ≤ 10 * sr.length + 30 := by
  have := rowA_len ([71, 84, 82, 67, 1] ++ numb 9 (sgn fu)) sr
  have h := numb_length 9 (sgn fu)
  rw [List.length_append, show ([71, 84, 82, 67, 1] : List Int).length = 5 from rfl] at this
  unfold start
  omega
theorem encode_ev (fu : Int) (sr : List Int) (e si ki ti re : Int) (sc : List Int) (ar ma : List (List Int)) (har : ar.length ≤ 9223372036854775807) (hma : ma.length ≤ 9223372036854775807) (hb : 10 * sr.length + 10 * sc.length + 10 * tot ar + 10 * tot ma + 500 < 140737488355328) :
    Evt (fun k => trace_Encode.f k fu sr e si ki ti re sc ar ma) (if Fit e si ki ti re ma then (file fu sr e si ki ti re sc ar ma, 0) else ([], 333)) := by
  have hs := start_len fu sr
  have h9 := numb_length 9 (sgn fu)
  unfold trace_Encode.f
  refine Evt.bind (Evt.of 0 (fun k => fit_eq fu sr e si ki ti re sc ar ma)) ?_
  by_cases hf : Fit e si ki ti re ma
  · rw [if_pos hf]
    refine Evt.congr (fun k => if_pos (decide_eq_true hf)) ?_
    refine Evt.bind (signedF_ev [71, 84, 82, 67, 1] fu (by decide)) ?_
    refine Evt.bind (rowsteps_ev _ sr (by rw [List.length_append, show ([71, 84, 82, 67, 1] : List Int).length = 5 from rfl]; omega)) ?_
    exact enc_l0 e si ki ti re sc ar ma (start fu sr) har hma (by omega)
  · rw [if_neg hf]
    refine Evt.congr (fun k => if_neg (by rw [decide_eq_false hf]; simp)) ?_
    exact Evt.of 0 (fun k => rfl)
end Go.Proofs.Ytiemdfdebdmchaa.M
