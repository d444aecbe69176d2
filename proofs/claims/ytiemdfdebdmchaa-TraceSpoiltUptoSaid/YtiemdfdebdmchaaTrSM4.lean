/- What the law's proof needs of M4. -/
import Derived.Test.YtiemdfdebdmchaaTrSM3
namespace Go.Proofs.Ytiemdfdebdmchaa.M
open Go.RowKit Go.Proofs.Ytiemdfdebdmchaa.P Go.Proofs.YtiemdfdebdmchaaW.PrintWords Go.Proofs.YtiemdfdebdmchaaW.PrintLast
/-- Rows, from a place on. -/
def rowN (f : Nat → Int × Int) : Nat → Nat → List Int → List Int
  | 0, _, b => b
  | m + 1, n, b => rowN f m (n + 1) (b ++ numb 9 (sgn (wrap64 ((f n).1 - (f n).2))))
theorem rowN_eq (f : Nat → Int × Int) : ∀ m n b, rowN f m n b = rowOf ((List.range' n m).map f) b
  | 0, n, b => rfl
  | m + 1, n, b => by
    rw [rowN, rowN_eq f m (n + 1), List.range'_succ, List.map_cons]
    rfl
theorem rowN_upto (f : Nat → Int × Int) (m : Nat) (b : List Int) : rowN f m 0 b = rowOf (upto f m) b := by
  rw [rowN_eq, upto, List.range_eq_range']
theorem reffit_eq (fu : Int) (sr : List Int) (e si ki ti re : Int) (sc : List Int) (ar ma : List (List Int)) : gimbalref33_Fit.f fu sr e si ki ti re sc ar ma = some (decide (Fit e si ki ti re ma)) := fit_eq fu sr e si ki ti re sc ar ma
end Go.Proofs.Ytiemdfdebdmchaa.M
