/- What the law's proof needs of M7. -/
import Derived.Test.YtbbnpipmjadpoaaTrHM5
import Derived.Test.YtbbnpipmjadpoaaTrHU2
import Derived.Test.YtbbnpipmjadpoaaTrHU
import Derived.Test.YtbbnpipmjadpoaaTrHPx0
import Derived.Test.YtbbnpipmjadpoaaTrHPx2
import Derived.Test.YtbbnpipmjadpoaaTrHPx3
import Derived.Test.YtbbnpipmjadpoaaTrHPx1
import Derived.Test.YtbbnpipmjadpoaaTrHPx15
import Derived.Test.YtbbnpipmjadpoaaTrHPx17
import Derived.Test.YtbbnpipmjadpoaaTrHPx16
import Derived.Laws.BitsLemmas
import Derived.Laws.Bits64
namespace Go.Proofs.Ytbbnpipmjadpoaa.M
open Go Go.RowKit Go.Proofs.Ytbbnpipmjadpoaa.P Go.Proofs.YtbbnpipmjadpoaaW.PrintWords Go.Proofs.YtbbnpipmjadpoaaW.PrintMore
def upv (a b : Int) : Int := if fitm a = 4611686018427387904 ∨ fitm b = 4611686018427387904 then 4611686018427387904 else min (max (fitm a + fitm b) (-4611686018427387903)) 4611686018427387904
def dnv (a b : Int) : Int := -(upv (-(fitm a)) (-(fitm b)))
def ad (p q : Int × Int) : Int × Int := C (dnv p.1 q.1) (upv p.2 q.2)
/-- is a number in an interval -/
def hs (p : Int × Int) (x : Int) : Bool := decide (p.1 ≤ p.2 ∧ (p.1 = -4611686018427387904 ∨ p.1 ≤ x) ∧ (p.2 = 4611686018427387904 ∨ x ≤ p.2))
end Go.Proofs.Ytbbnpipmjadpoaa.M
