/- What the law's proof needs of M7. -/
import Derived.Test.YtllfopbchdahoaaTrLM5
namespace Go.Proofs.Ytllfopbchdahoaa.M
open Go.RowKit Go.Proofs.Ytllfopbchdahoaa.P Go.Proofs.YtllfopbchdahoaaW.PrintWords Go.Proofs.YtllfopbchdahoaaW.PrintLast
def inr (l : L5) (n : Nat) : Prop := (l.s ≠ 0 → l.x < n) ∧ (l.t ≠ 0 → l.y < n)
end Go.Proofs.Ytllfopbchdahoaa.M
