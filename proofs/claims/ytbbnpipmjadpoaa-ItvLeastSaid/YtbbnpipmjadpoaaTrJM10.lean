/- What the law's proof needs of M10. -/
import Derived.Test.YtbbnpipmjadpoaaTrJM9
namespace Go.Proofs.Ytbbnpipmjadpoaa.M
open Go Go.RowKit Go.Proofs.Ytbbnpipmjadpoaa.P Go.Proofs.YtbbnpipmjadpoaaW.PrintWords Go.Proofs.YtbbnpipmjadpoaaW.PrintMore
def mi (p q : Int × Int) : Int × Int := C (min p.1 q.1) (min p.2 q.2)
def ma (p q : Int × Int) : Int × Int := C (max p.1 q.1) (max p.2 q.2)
end Go.Proofs.Ytbbnpipmjadpoaa.M
