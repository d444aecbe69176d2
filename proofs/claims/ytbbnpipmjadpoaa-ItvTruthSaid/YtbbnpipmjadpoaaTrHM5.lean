/- What the law's proof needs of M5. -/
import Derived.Test.YtbbnpipmjadpoaaTrHM4
import Derived.Test.YtbbnpipmjadpoaaTrHU2
import Derived.Test.YtbbnpipmjadpoaaTrHU
import Derived.Test.YtbbnpipmjadpoaaTrHPx0
import Derived.Test.YtbbnpipmjadpoaaTrHPx2
import Derived.Test.YtbbnpipmjadpoaaTrHPx3
import Derived.Test.YtbbnpipmjadpoaaTrHPx1
import Derived.Test.YtbbnpipmjadpoaaTrHPx15
import Derived.Test.YtbbnpipmjadpoaaTrHPx16
import Derived.Test.YtbbnpipmjadpoaaTrHPx17
import Derived.Test.YtbbnpipmjadpoaaTrHPx10
namespace Go.Proofs.Ytbbnpipmjadpoaa.M
open Go Go.RowKit Go.Proofs.Ytbbnpipmjadpoaa.P Go.Proofs.YtbbnpipmjadpoaaW.PrintWords Go.Proofs.YtbbnpipmjadpoaaW.PrintMore
def fitm (a : Int) : Int := min (max a (-4611686018427387904)) 4611686018427387904
def hl (a b c d : Int) : Int × Int := C (min (min a b) (min c d)) (max (max a b) (max c d))
def ps (q : Int × Int) : Int × Int := me q (1, 4611686018427387904)
end Go.Proofs.Ytbbnpipmjadpoaa.M
