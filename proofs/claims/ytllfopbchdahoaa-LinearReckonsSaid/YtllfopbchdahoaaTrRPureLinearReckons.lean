/- What the law's proof needs of PureLinearReckons. -/
import Derived.Test.YtllfopbchdahoaaTrRM6
import Derived.Test.YtllfopbchdahoaaTrRPx17
namespace Go.Proofs.Ytllfopbchdahoaa.Pure
open Go.RowKit Go.Proofs.Ytllfopbchdahoaa.P Go.Proofs.Ytllfopbchdahoaa.M Go.Proofs.YtllfopbchdahoaaW.PrintWords Go.Proofs.YtllfopbchdahoaaW.PrintLast
theorem LinearReckons : gimballaw14_LinearReckons.Pure := by
  intro x s y t c x' s' y' t' c' _ _ _ _ _ _ _ _ _ _
  refine Evt.is (r := true) ?_
  unfold gimballaw14_LinearReckons.f
  refine Evt.bind (add_eq ⟨x, s, y, t, c⟩ ⟨x', s', y', t', c'⟩) ?_
  refine Evt.bind (sub_eq ⟨x, s, y, t, c⟩ ⟨x', s', y', t', c'⟩) ?_
  refine Evt.bind (neg_eq ⟨x, s, y, t, c⟩) ?_
  refine Evt.bind (refadd_eq ⟨x, s, y, t, c⟩ ⟨x', s', y', t', c'⟩) ?_
  refine Evt.bind (refsub_eq ⟨x, s, y, t, c⟩ ⟨x', s', y', t', c'⟩) ?_
  refine Evt.bind (refneg_eq ⟨x, s, y, t, c⟩) ?_
  refine Evt.bind (fit_ev ⟨x, s, y, t, c⟩) ?_
  refine Evt.bind (reffit_ev ⟨x, s, y, t, c⟩) ?_
  simp only [beq_self_eq_true, Bool.and_self, if_true]
  exact Evt.bind awake_ev (Evt.of 0 (fun k => rfl))
end Go.Proofs.Ytllfopbchdahoaa.Pure
