/- Value of any form and values is what the document answers; no condition beyond the arguments' own bounds. -/
import Derived.Test.YtllfopbchdahoaaM5
import Derived.Test.YtllfopbchdahoaaPx11
namespace Go.Proofs.Ytllfopbchdahoaa.Pure
open Go.RowKit Go.Proofs.Ytllfopbchdahoaa.P Go.Proofs.Ytllfopbchdahoaa.M Go.Proofs.YtllfopbchdahoaaW.PrintWords Go.Proofs.YtllfopbchdahoaaW.PrintLast
theorem LinearValues : gimballaw14_LinearValues.Pure := by
  intro x s y t c v _ _ _ _ _ _ _ _
  refine Evt.is (r := true) ?_
  unfold gimballaw14_LinearValues.f
  refine Evt.bind (value_ev ⟨x, s, y, t, c⟩ v) ?_
  refine Evt.bind (Evt.of 3 (fun k => refvalue_eq k ⟨x, s, y, t, c⟩ v)) ?_
  refine Evt.congr (fun k => if_pos rfl) ?_
  exact Evt.bind awake_ev (Evt.of 0 (fun k => rfl))
end Go.Proofs.Ytllfopbchdahoaa.Pure
