/- What the law's proof needs of M4. -/
import Derived.Test.YtbbnpipmjadpoaaTrHM2
import Derived.Test.YtbbnpipmjadpoaaTrHU2
import Derived.Test.YtbbnpipmjadpoaaTrHU
import Derived.Test.YtbbnpipmjadpoaaTrHPx0
import Derived.Test.YtbbnpipmjadpoaaTrHPx3
namespace Go.Proofs.Ytbbnpipmjadpoaa.M
open Go Go.RowKit Go.Proofs.Ytbbnpipmjadpoaa.P Go.Proofs.YtbbnpipmjadpoaaW.PrintWords Go.Proofs.YtbbnpipmjadpoaaW.PrintMore
/-- an interval as all functions give it: the empty one, or one with numbers -/
def W (p : Int × Int) : Prop := (p.1 = 1 ∧ p.2 = 0) ∨ S p
def me (p q : Int × Int) : Int × Int := if p.1 > p.2 ∨ q.1 > q.2 ∨ max p.1 q.1 > min p.2 q.2 then (1, 0) else (max p.1 q.1, min p.2 q.2)
end Go.Proofs.Ytbbnpipmjadpoaa.M
