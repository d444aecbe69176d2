/- What the law's proof needs of M0. -/
import Derived.Test.YtcalcbeonbfkmaaTrRPx0
namespace Go.Proofs.Ytcalcbeonbfkmaa.M
open Go.RowKit
theorem wrap64_in (n : Int) (h : -9223372036854775808 ≤ n ∧ n ≤ 9223372036854775807) : wrap64 n = n := by unfold wrap64; omega
end Go.Proofs.Ytcalcbeonbfkmaa.M
