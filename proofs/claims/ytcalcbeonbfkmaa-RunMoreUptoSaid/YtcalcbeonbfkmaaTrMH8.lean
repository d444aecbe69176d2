/- What the law's proof needs of H8. -/
import Derived.Test.YtcalcbeonbfkmaaTrMG13
import Derived.Test.YtcalcbeonbfkmaaTrMU4
import Derived.Test.YtcalcbeonbfkmaaTrMPx0
namespace Go.Proofs.Ytcalcbeonbfkmaa.P
open Go.RowKit Go.Proofs.YtcalcbeonbfkmaaW.PrintWords Go.Proofs.YtcalcbeonbfkmaaW.PrintLast Go.Proofs.YtcalcbeonbfkmaaW.PrintMore Go.Proofs.YtcalcbeonbfkmaaO
attribute [local go_sem] max2_int min2_int max_two min_two max_three min_three max_four min_four
set_option linter.unusedVariables false
set_option linter.unusedSimpArgs false
/-- Where a run goes on. -/
def nxtY (S : St) (y : S52) : Int := if y.f0 = 15 ∧ testB y.f4 (S.regs.getD y.f2.toNat 0) (S.regs.getD y.f3.toNat 0) = false then y.f6.f1 else y.f6.f0
/-- The end of a step: over, or at the next place. -/
def finS (S : St) (y : S52) (T : St) : St := if T.en = 0 then { T with at_ := nxtY S y } else T
end Go.Proofs.Ytcalcbeonbfkmaa.P
