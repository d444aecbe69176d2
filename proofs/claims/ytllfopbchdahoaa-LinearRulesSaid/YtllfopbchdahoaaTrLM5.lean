/- What the law's proof needs of M5. -/
import Derived.Test.YtllfopbchdahoaaTrLM4
import Derived.Test.YtllfopbchdahoaaTrLPx10
import Derived.Test.YtllfopbchdahoaaTrLPx12
namespace Go.Proofs.Ytllfopbchdahoaa.M
open Go.RowKit Go.Proofs.Ytllfopbchdahoaa.P Go.Proofs.YtllfopbchdahoaaW.PrintWords Go.Proofs.YtllfopbchdahoaaW.PrintLast
def negr (a : L5) : L5 × Bool := if Fit a then (neg5 a, true) else (zero5, false)
def subr (a b : L5) : L5 × Bool := if Fit b then add5 a (neg5 b) else (zero5, false)
theorem neg_wraps {a : L5} (h : Fit a) : wrap64 (-a.s) = -a.s ∧ wrap64 (-a.t) = -a.t ∧ wrap64 (-a.c) = -a.c := by
  obtain ⟨hs, ht, _, _, _, hc⟩ := fit_signs h
  exact ⟨wrap64_in _ (by omega), wrap64_in _ (by omega), wrap64_in _ (by omega)⟩
theorem fit_ev (a : L5) : Evt (fun k => linear_Fit.f k a.x a.s a.y a.t a.c) (decide (Fit a)) := Evt.of 1 (fun k => fit_eq k _ _ _ _ _)
theorem value_ev (a : L5) (v : List Int) : Evt (fun k => linear_Value.f k a.x a.s a.y a.t a.c v) (val5 a v) := Evt.of 3 (fun k => value_eq k _ _)
theorem neg_eq (a : L5) : Evt (fun k => linear_Neg.f k a.x a.s a.y a.t a.c) (tup (negr a)) := by
  unfold linear_Neg.f
  refine Evt.bind (fit_ev a) ?_
  unfold negr
  by_cases h : Fit a
  · rw [if_pos h]
    obtain ⟨h1, h2, h3⟩ := neg_wraps h
    refine Evt.of 0 (fun k => ?_)
    rw [if_pos (decide_eq_true h), h1, h2, h3]
    rfl
  · rw [if_neg h]
    refine Evt.of 0 (fun k => ?_)
    rw [if_neg (by rw [decide_eq_false h]; decide)]
    rfl
theorem sub_eq (a b : L5) : Evt (fun k => linear_Sub.f k a.x a.s a.y a.t a.c b.x b.s b.y b.t b.c) (tup (subr a b)) := by
  unfold linear_Sub.f
  refine Evt.bind (neg_eq b) ?_
  unfold negr subr
  by_cases h : Fit b
  · rw [if_pos h, if_pos h]
    refine Evt.congr (fun k => if_pos rfl) ?_
    exact Evt.bind (add_eq a (neg5 b)) (Evt.of 0 (fun k => rfl))
  · rw [if_neg h, if_neg h]
    refine Evt.of 0 (fun k => ?_)
    exact if_neg (by decide)
theorem awake_ev : Evt (fun k => gimballaw14_awake.f k) true := by
  unfold gimballaw14_awake.f
  have e : add5 ⟨0, 1, 0, 0, 1⟩ ⟨2, -1, 0, 0, 4⟩ = (⟨0, 1, 2, -1, 5⟩, true) := by decide +kernel
  have ha := add_eq ⟨0, 1, 0, 0, 1⟩ ⟨2, -1, 0, 0, 4⟩
  rw [e] at ha
  refine Evt.bind ha ?_
  refine Evt.congr (fun k => if_pos rfl) ?_
  refine Evt.congr (fun k => if_pos (by decide)) ?_
  have hv := value_ev ⟨0, 1, 2, -1, 5⟩ [10, 0, 3]
  have ev : val5 ⟨0, 1, 2, -1, 5⟩ [10, 0, 3] = 12 := by decide +kernel
  rw [ev] at hv
  refine Evt.bind hv ?_
  refine Evt.congr (fun k => if_pos rfl) ?_
  have hf := fit_ev ⟨0, 1, 2, -1, 5⟩
  rw [decide_eq_true (show Fit ⟨0, 1, 2, -1, 5⟩ from by decide +kernel)] at hf
  exact Evt.bind hf (Evt.of 0 (fun k => rfl))
end Go.Proofs.Ytllfopbchdahoaa.M
