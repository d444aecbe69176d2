/- What the law's proof needs of PureLinearSums. -/
import Derived.Test.YtllfopbchdahoaaTrSM7
import Derived.Test.YtllfopbchdahoaaTrSPx19
namespace Go.Proofs.Ytllfopbchdahoaa.Pure
open Go.RowKit Go.Proofs.Ytllfopbchdahoaa.P Go.Proofs.Ytllfopbchdahoaa.M Go.Proofs.YtllfopbchdahoaaW.PrintWords Go.Proofs.YtllfopbchdahoaaW.PrintLast
theorem awk : Evt (fun k => (gimballaw14_awake.f k).bind fun t => (some t)) true := Evt.bind awake_ev (Evt.of 0 (fun k => rfl))
theorem sums_neg (a : L5) (v : List Int) (fa : Fit a) (ia : inr a v.length) :
    Evt (fun k => if (tup (neg5 a, true)).2.2.2.2.2 = true then ((linear_Fit.f k (tup (neg5 a, true)).1 (tup (neg5 a, true)).2.1 (tup (neg5 a, true)).2.2.1 (tup (neg5 a, true)).2.2.2.1 (tup (neg5 a, true)).2.2.2.2.1).bind fun t494 => (if t494 = true then ((linear_Value.f k (tup (neg5 a, true)).1 (tup (neg5 a, true)).2.1 (tup (neg5 a, true)).2.2.1 (tup (neg5 a, true)).2.2.2.1 (tup (neg5 a, true)).2.2.2.2.1 v).bind fun t495 => (if t495 = (wrap64 (-val5 a v)) then ((gimballaw14_awake.f k).bind fun t496 => (some t496)) else (some false))) else (some false))) else (some false)) true := by
  refine Evt.congr (fun k => if_pos rfl) ?_
  refine Evt.bind (fit_ev (neg5 a)) ?_
  refine Evt.congr (fun k => if_pos (decide_eq_true (neg5_fit fa))) ?_
  refine Evt.bind (value_ev (neg5 a) v) ?_
  have hb := val_bound a v
  refine Evt.congr (fun k => if_pos (by rw [val_neg fa ia, wrap64_in _ (by omega)])) ?_
  exact awk
theorem sums_j1 (a b : L5) (v : List Int) (x : Bool) (h : x = false → Fit a ∧ Fit b ∧ inr a v.length ∧ inr b v.length) :
    Evt (fun k => gimballaw14_LinearSums.j1 k v x a.x a.s a.y a.t a.c b.x b.s b.y b.t b.c) true := by
  cases x with
  | true => exact Evt.step (fun k => by rw [gimballaw14_LinearSums.j1, if_pos rfl]) awk
  | false =>
    obtain ⟨fa, fb, ia, ib⟩ := h rfl
    have ba := val_bound a v
    have bb := val_bound b v
    refine Evt.step (fun k => by rw [gimballaw14_LinearSums.j1, if_neg (by decide)]) ?_
    refine Evt.bind (value_ev a v) ?_
    refine Evt.bind (value_ev b v) ?_
    refine Evt.bind (add_eq a b) ?_
    refine Evt.bind (sub_eq a b) ?_
    refine Evt.bind (neg_eq a) ?_
    have en : negr a = (neg5 a, true) := if_pos fa
    have es : subr a b = add5 a (neg5 b) := if_pos fb
    rw [en, es]
    have hsub : ∀ l, add5 a (neg5 b) = (l, true) → Fit l ∧ val5 l v = wrap64 (val5 a v - val5 b v) := by
      intro l hl
      obtain ⟨h1, h2⟩ := val_add hl ia (neg5_inr ib)
      refine ⟨h1, ?_⟩
      rw [h2, val_neg fb ib, wrap64_in _ (by omega)]
      omega
    have second : ∀ r, r = add5 a (neg5 b) → Evt (fun k => if (tup r).2.2.2.2.2 = true then ((linear_Fit.f k (tup r).1 (tup r).2.1 (tup r).2.2.1 (tup r).2.2.2.1 (tup r).2.2.2.2.1).bind fun t492 => (if t492 = true then ((linear_Value.f k (tup r).1 (tup r).2.1 (tup r).2.2.1 (tup r).2.2.2.1 (tup r).2.2.2.2.1 v).bind fun t493 => (if t493 = (wrap64 (val5 a v - val5 b v)) then (if (tup (neg5 a, true)).2.2.2.2.2 = true then ((linear_Fit.f k (tup (neg5 a, true)).1 (tup (neg5 a, true)).2.1 (tup (neg5 a, true)).2.2.1 (tup (neg5 a, true)).2.2.2.1 (tup (neg5 a, true)).2.2.2.2.1).bind fun t494 => (if t494 = true then ((linear_Value.f k (tup (neg5 a, true)).1 (tup (neg5 a, true)).2.1 (tup (neg5 a, true)).2.2.1 (tup (neg5 a, true)).2.2.2.1 (tup (neg5 a, true)).2.2.2.2.1 v).bind fun t495 => (if t495 = (wrap64 (-val5 a v)) then ((gimballaw14_awake.f k).bind fun t496 => (some t496)) else (some false))) else (some false))) else (some false)) else (some false))) else (some false))) else (if (tup (neg5 a, true)).2.2.2.2.2 = true then ((linear_Fit.f k (tup (neg5 a, true)).1 (tup (neg5 a, true)).2.1 (tup (neg5 a, true)).2.2.1 (tup (neg5 a, true)).2.2.2.1 (tup (neg5 a, true)).2.2.2.2.1).bind fun t497 => (if t497 = true then ((linear_Value.f k (tup (neg5 a, true)).1 (tup (neg5 a, true)).2.1 (tup (neg5 a, true)).2.2.1 (tup (neg5 a, true)).2.2.2.1 (tup (neg5 a, true)).2.2.2.2.1 v).bind fun t498 => (if t498 = (wrap64 (-val5 a v)) then ((gimballaw14_awake.f k).bind fun t499 => (some t499)) else (some false))) else (some false))) else (some false))) true := by
      rintro ⟨l, b2⟩ hr
      cases b2 with
      | true =>
        obtain ⟨h1, h2⟩ := hsub l hr.symm
        refine Evt.congr (fun k => if_pos rfl) ?_
        refine Evt.bind (fit_ev l) ?_
        refine Evt.congr (fun k => if_pos (decide_eq_true h1)) ?_
        refine Evt.bind (value_ev l v) ?_
        refine Evt.congr (fun k => if_pos h2) ?_
        exact sums_neg a v fa ia
      | false =>
        refine Evt.congr (fun k => if_neg Bool.false_ne_true) ?_
        exact sums_neg a v fa ia
    rcases hr : add5 a b with ⟨l, b1⟩
    cases b1 with
    | true =>
      obtain ⟨h1, h2⟩ := val_add hr ia ib
      refine Evt.congr (fun k => if_pos rfl) ?_
      refine Evt.bind (fit_ev l) ?_
      refine Evt.congr (fun k => if_pos (decide_eq_true h1)) ?_
      refine Evt.bind (value_ev l v) ?_
      refine Evt.congr (fun k => if_pos (by rw [h2, wrap64_in _ (by omega)])) ?_
      exact second _ rfl
    | false =>
      refine Evt.congr (fun k => if_neg Bool.false_ne_true) ?_
      exact second _ rfl
theorem sums_end (a b : L5) (s v : List Int) (n : Int) (hn : ¬ n < (s.length : Int)) : Evt (fun k => gimballaw14_LinearSums.l0 k s v n a.x a.s a.y a.t a.c b.x b.s b.y b.t b.c) true := by
  refine Evt.step (fun k => by rw [gimballaw14_LinearSums.l0, if_neg hn]) ?_
  have bad := sums_j1 a b v true (fun h => by cases h)
  refine Evt.bind (fit_ev a) ?_
  by_cases fa : Fit a
  · refine Evt.congr (fun k => if_pos (decide_eq_true fa)) ?_
    refine Evt.bind (fit_ev b) ?_
    by_cases fb : Fit b
    · refine Evt.congr (fun k => if_pos (decide_eq_true fb)) ?_
      by_cases h1 : a.x ≥ (v.length : Int)
      · exact Evt.congr (fun k => if_pos h1) bad
      · refine Evt.congr (fun k => if_neg h1) ?_
        by_cases h2 : a.y ≥ (v.length : Int)
        · exact Evt.congr (fun k => if_pos h2) bad
        · refine Evt.congr (fun k => if_neg h2) ?_
          by_cases h3 : b.x ≥ (v.length : Int)
          · exact Evt.congr (fun k => if_pos h3) bad
          · refine Evt.congr (fun k => if_neg h3) ?_
            refine sums_j1 a b v _ (fun h => ?_)
            have h4 := of_decide_eq_false h
            exact ⟨fa, fb, ⟨fun _ => by omega, fun _ => by omega⟩, ⟨fun _ => by omega, fun _ => by omega⟩⟩
    · refine Evt.congr (fun k => if_neg (by rw [decide_eq_false fb]; decide)) bad
  · refine Evt.congr (fun k => if_neg (by rw [decide_eq_false fa]; decide)) bad
theorem sums_l0 (a b : L5) (s : List Int) (hs : s.length < 17592186044416) : ∀ (m : Nat) (v : List Int), v.length + m = s.length → Evt (fun k => gimballaw14_LinearSums.l0 k s v (v.length : Int) a.x a.s a.y a.t a.c b.x b.s b.y b.t b.c) true
  | 0, v, h => sums_end a b s v _ (by omega)
  | m + 1, v, h => by
    have e : ((v ++ [clp (rd s (v.length : Int))]).length : Int) = wrap64 ((v.length : Int) + 1) := by
      rw [wrap64_in _ (by omega), List.length_append]
      simp only [List.length_cons, List.length_nil]
      omega
    have ih := sums_l0 a b s hs m (v ++ [clp (rd s (v.length : Int))]) (by simp only [List.length_append, List.length_cons, List.length_nil]; omega)
    rw [e] at ih
    refine Evt.step (fun k => ?_) ih
    rw [gimballaw14_LinearSums.l0, if_pos (by omega), if_pos (by omega)]
    simp only [gimballaw14_cut.f, Option.bind_some]
    rw [if_pos (by omega)]
    rfl
theorem LinearSums : gimballaw14_LinearSums.Pure := by
  intro x s y t c x' s' y' t' c' l _ _ _ _ _ _ _ _ _ _ _ hl _
  refine Evt.is (r := true) ?_
  unfold gimballaw14_LinearSums.f
  exact sums_l0 ⟨x, s, y, t, c⟩ ⟨x', s', y', t', c'⟩ l (by omega) l.length [] (by simp)
end Go.Proofs.Ytllfopbchdahoaa.Pure
